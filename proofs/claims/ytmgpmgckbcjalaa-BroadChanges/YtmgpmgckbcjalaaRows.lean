/-
  No cell of these rows narrows 'for every input' (looked for: loops, veiled, ifaces, maps, wideKeys, modest, calm, conditions, laid).
  DERIVED. THE GIVEN ROWS OF THIS SEAT. 7 by the template 'for every input the law returns true; each argument reads behind the call as it read before'; 0 by the template 'total and deterministic' (their statements: YtmgpmgckbcjalaaTotals.lean).
  GIVEN WITH THE SEED: the statements are not yours to turn. If you find one false, say at which input.
  Laid BY PROGRAM, IN A SANDBOX (cutbox-rows.mjs): the forced cells as the released guide's own fill.sh prints them over the translation 28bac65c437d4c21… (all of the seat's roots in one cut). By AI agents, Wed Nov 11 2026. No macro, syntax, notation, axiom, sorry.
-/
import Derived.Test.YtmgpmgckbcjalaaChecked
import GoSem.Claim
import GoSem.ClaimJoined
import GoSem.ClaimMapViews
import Derived.JoinedTies
import Derived.KernelRfl
namespace Go.Proofs.Ytmgpmgckbcjalaa
/- THE CELL 'sum', in the pinned program and in every row, IS THE sha256 OF THE DUMP (.gsa) THAT YtmgpmgckbcjalaaProg.lean LOADS. Nothing in Lean hashes anything: it is a label: what it is worth is what the hold of that sum in a sandbox is worth. -/
noncomputable def Try.pinned : Pinned := { name := "ytmgpmgckbcjalaa", sum := "28bac65c437d4c2143d204bce66ed1602935b88cf97dfc73249c09835f04f9d6", checked := Try.checked }
namespace Rows
def none {H : Type} : Left H := { results := [], args := [] }

/-- 'marcheslaw06.BroadAreas': WHATEVER THE INPUT: true; the input reads as it did. -/
def broadAreasSpec : ChangeSpec := { name := "broadAreas", fn := fun _ => fun
  | [d1, d2] => { results := [.lit (.bool true)], args := [d1, d2] }
  | _ => none }
def broadAreasRow : OpenClaim := { program := "ytmgpmgckbcjalaa", sum := "28bac65c437d4c2143d204bce66ed1602935b88cf97dfc73249c09835f04f9d6", func := "marches/marcheslaw06.BroadAreas", spec := "broadAreas", inPlace := ["maps.clone"], unfollowed := true, recurses := true, plainKeys := false, apart := false }
def BroadAreasSaid : Prop := broadAreasRow.holds Try.pinned (OpenSpec.ofChange broadAreasSpec)

/-- ITS FALSE NEIGHBOUR: 'it returns false'. Refute it at one input. -/
def broadAreasWrong : ChangeSpec := { name := "broadAreas", fn := fun _ => fun
  | [d1, d2] => { results := [.lit (.bool false)], args := [d1, d2] }
  | _ => none }
def BroadAreasWrongFalsely : Prop := broadAreasRow.holds Try.pinned (OpenSpec.ofChange broadAreasWrong)

/-- 'marcheslaw06.BroadAll': WHATEVER THE INPUT: true; the input reads as it did. -/
def broadAllSpec : ChangeSpec := { name := "broadAll", fn := fun _ => fun
  | [d] => { results := [.lit (.bool true)], args := [d] }
  | _ => none }
def broadAllRow : OpenClaim := { program := "ytmgpmgckbcjalaa", sum := "28bac65c437d4c2143d204bce66ed1602935b88cf97dfc73249c09835f04f9d6", func := "marches/marcheslaw06.BroadAll", spec := "broadAll", inPlace := ["maps.clone"], unfollowed := true, recurses := true, plainKeys := false, apart := false }
def BroadAllSaid : Prop := broadAllRow.holds Try.pinned (OpenSpec.ofChange broadAllSpec)

/-- ITS FALSE NEIGHBOUR: 'it returns false'. Refute it at one input. -/
def broadAllWrong : ChangeSpec := { name := "broadAll", fn := fun _ => fun
  | [d] => { results := [.lit (.bool false)], args := [d] }
  | _ => none }
def BroadAllWrongFalsely : Prop := broadAllRow.holds Try.pinned (OpenSpec.ofChange broadAllWrong)

/-- 'marcheslaw06.BroadQuery': WHATEVER THE INPUT: true; the input reads as it did. -/
def broadQuerySpec : ChangeSpec := { name := "broadQuery", fn := fun _ => fun
  | [d1, d2, d3] => { results := [.lit (.bool true)], args := [d1, d2, d3] }
  | _ => none }
def broadQueryRow : OpenClaim := { program := "ytmgpmgckbcjalaa", sum := "28bac65c437d4c2143d204bce66ed1602935b88cf97dfc73249c09835f04f9d6", func := "marches/marcheslaw06.BroadQuery", spec := "broadQuery", inPlace := ["maps.clone"], unfollowed := true, recurses := true, plainKeys := false, apart := false }
def BroadQuerySaid : Prop := broadQueryRow.holds Try.pinned (OpenSpec.ofChange broadQuerySpec)

/-- ITS FALSE NEIGHBOUR: 'it returns false'. Refute it at one input. -/
def broadQueryWrong : ChangeSpec := { name := "broadQuery", fn := fun _ => fun
  | [d1, d2, d3] => { results := [.lit (.bool false)], args := [d1, d2, d3] }
  | _ => none }
def BroadQueryWrongFalsely : Prop := broadQueryRow.holds Try.pinned (OpenSpec.ofChange broadQueryWrong)

/-- 'marcheslaw06.BroadJoins': WHATEVER THE INPUT: true; the input reads as it did. -/
def broadJoinsSpec : ChangeSpec := { name := "broadJoins", fn := fun _ => fun
  | [d1, d2, d3, d4, d5] => { results := [.lit (.bool true)], args := [d1, d2, d3, d4, d5] }
  | _ => none }
def broadJoinsRow : OpenClaim := { program := "ytmgpmgckbcjalaa", sum := "28bac65c437d4c2143d204bce66ed1602935b88cf97dfc73249c09835f04f9d6", func := "marches/marcheslaw06.BroadJoins", spec := "broadJoins", inPlace := ["maps.clone"], unfollowed := true, recurses := true, plainKeys := false, apart := false }
def BroadJoinsSaid : Prop := broadJoinsRow.holds Try.pinned (OpenSpec.ofChange broadJoinsSpec)

/-- ITS FALSE NEIGHBOUR: 'it returns false'. Refute it at one input. -/
def broadJoinsWrong : ChangeSpec := { name := "broadJoins", fn := fun _ => fun
  | [d1, d2, d3, d4, d5] => { results := [.lit (.bool false)], args := [d1, d2, d3, d4, d5] }
  | _ => none }
def BroadJoinsWrongFalsely : Prop := broadJoinsRow.holds Try.pinned (OpenSpec.ofChange broadJoinsWrong)

/-- 'marcheslaw06.BroadChanges': WHATEVER THE INPUT: true; the input reads as it did. -/
def broadChangesSpec : ChangeSpec := { name := "broadChanges", fn := fun _ => fun
  | [d1, d2] => { results := [.lit (.bool true)], args := [d1, d2] }
  | _ => none }
def broadChangesRow : OpenClaim := { program := "ytmgpmgckbcjalaa", sum := "28bac65c437d4c2143d204bce66ed1602935b88cf97dfc73249c09835f04f9d6", func := "marches/marcheslaw06.BroadChanges", spec := "broadChanges", inPlace := ["maps.clone"], unfollowed := true, recurses := true, plainKeys := false, apart := false }
def BroadChangesSaid : Prop := broadChangesRow.holds Try.pinned (OpenSpec.ofChange broadChangesSpec)

/-- ITS FALSE NEIGHBOUR: 'it returns false'. Refute it at one input. -/
def broadChangesWrong : ChangeSpec := { name := "broadChanges", fn := fun _ => fun
  | [d1, d2] => { results := [.lit (.bool false)], args := [d1, d2] }
  | _ => none }
def BroadChangesWrongFalsely : Prop := broadChangesRow.holds Try.pinned (OpenSpec.ofChange broadChangesWrong)

/-- 'marcheslaw06.BroadOrder': WHATEVER THE INPUT: true; the input reads as it did. -/
def broadOrderSpec : ChangeSpec := { name := "broadOrder", fn := fun _ => fun
  | [d1, d2] => { results := [.lit (.bool true)], args := [d1, d2] }
  | _ => none }
def broadOrderRow : OpenClaim := { program := "ytmgpmgckbcjalaa", sum := "28bac65c437d4c2143d204bce66ed1602935b88cf97dfc73249c09835f04f9d6", func := "marches/marcheslaw06.BroadOrder", spec := "broadOrder", inPlace := ["maps.clone"], unfollowed := true, recurses := true, plainKeys := false, apart := false }
def BroadOrderSaid : Prop := broadOrderRow.holds Try.pinned (OpenSpec.ofChange broadOrderSpec)

/-- ITS FALSE NEIGHBOUR: 'it returns false'. Refute it at one input. -/
def broadOrderWrong : ChangeSpec := { name := "broadOrder", fn := fun _ => fun
  | [d1, d2] => { results := [.lit (.bool false)], args := [d1, d2] }
  | _ => none }
def BroadOrderWrongFalsely : Prop := broadOrderRow.holds Try.pinned (OpenSpec.ofChange broadOrderWrong)

/-- 'marcheslaw06.BroadWrong': WHATEVER THE INPUT: true; the input reads as it did. -/
def broadWrongSpec : ChangeSpec := { name := "broadWrong", fn := fun _ => fun
  | [d1, d2, d3, d4] => { results := [.lit (.bool true)], args := [d1, d2, d3, d4] }
  | _ => none }
def broadWrongRow : OpenClaim := { program := "ytmgpmgckbcjalaa", sum := "28bac65c437d4c2143d204bce66ed1602935b88cf97dfc73249c09835f04f9d6", func := "marches/marcheslaw06.BroadWrong", spec := "broadWrong", inPlace := ["maps.clone"], unfollowed := true, recurses := true, plainKeys := false, apart := false }
def BroadWrongSaid : Prop := broadWrongRow.holds Try.pinned (OpenSpec.ofChange broadWrongSpec)

/-- ITS FALSE NEIGHBOUR: 'it returns false'. Refute it at one input. -/
def broadWrongWrong : ChangeSpec := { name := "broadWrong", fn := fun _ => fun
  | [d1, d2, d3, d4] => { results := [.lit (.bool false)], args := [d1, d2, d3, d4] }
  | _ => none }
def BroadWrongWrongFalsely : Prop := broadWrongRow.holds Try.pinned (OpenSpec.ofChange broadWrongWrong)

/- THE SECOND FORM. 'bulk': how many values and letters a reading holds, each counted each time it is reached (what is shared counts as often as it is met; a slice's spare places count too). A statement '..UptoSaid' is the law's where the arguments, and the package variables that the reading takes, are together of bulk at most 1048576: NARROWER than '..Said'. Prove '..Said' where nothing that the law and all that it calls make is longer than what came in: it says more and counts as full. Else prove '..UptoSaid'. A law counts once. -/
mutual
def uptoBulk {H : Type} : DataW H → Nat
  | .lit (.string bytes) => bytes.length + 1
  | .lit _ => 1
  | .nil => 1
  | .ptr d => uptoBulk d + 1
  | .slice elems spare => uptoBulkAll elems + uptoBulkAll spare + 1
  | .agg parts => uptoBulkAll parts + 1
  | .iface _ d => uptoBulk d + 1
  | .map entries => uptoBulkEntries entries + 1
  | .held _ => 1
def uptoBulkAll {H : Type} : List (DataW H) → Nat
  | [] => 0
  | d :: r => uptoBulk d + uptoBulkAll r
def uptoBulkEntries {H : Type} : List (Lit × DataW H) → Nat
  | [] => 0
  | x :: r => uptoBulkEntry x + uptoBulkEntries r
def uptoBulkEntry {H : Type} : Lit × DataW H → Nat
  | (.string bytes, d) => bytes.length + uptoBulk d + 1
  | (_, d) => uptoBulk d + 1
 end
def uptoSmall : (H : Type) → List (DataW H) → Bool := fun _ ds => decide (uptoBulkAll ds ≤ 1048576)
def OpenSpec.upto (s : _root_.Go.ChangeSpec) : _root_.Go.OpenSpec := { _root_.Go.OpenSpec.ofChange s with cond := some uptoSmall }

/-- 'marcheslaw06.BroadAreas', WHERE WHAT IT READS IS OF BULK AT MOST 1048576: true; the input reads as it did. -/
def broadAreasUptoRow : OpenClaim := { program := "ytmgpmgckbcjalaa", sum := "28bac65c437d4c2143d204bce66ed1602935b88cf97dfc73249c09835f04f9d6", func := "marches/marcheslaw06.BroadAreas", spec := "broadAreas", inPlace := ["maps.clone"], unfollowed := true, recurses := true, plainKeys := false, apart := false, narrowed := true }
def BroadAreasUptoSaid : Prop := broadAreasUptoRow.holds Try.pinned (OpenSpec.upto broadAreasSpec)

/-- 'marcheslaw06.BroadAll', WHERE WHAT IT READS IS OF BULK AT MOST 1048576: true; the input reads as it did. -/
def broadAllUptoRow : OpenClaim := { program := "ytmgpmgckbcjalaa", sum := "28bac65c437d4c2143d204bce66ed1602935b88cf97dfc73249c09835f04f9d6", func := "marches/marcheslaw06.BroadAll", spec := "broadAll", inPlace := ["maps.clone"], unfollowed := true, recurses := true, plainKeys := false, apart := false, narrowed := true }
def BroadAllUptoSaid : Prop := broadAllUptoRow.holds Try.pinned (OpenSpec.upto broadAllSpec)

/-- 'marcheslaw06.BroadQuery', WHERE WHAT IT READS IS OF BULK AT MOST 1048576: true; the input reads as it did. -/
def broadQueryUptoRow : OpenClaim := { program := "ytmgpmgckbcjalaa", sum := "28bac65c437d4c2143d204bce66ed1602935b88cf97dfc73249c09835f04f9d6", func := "marches/marcheslaw06.BroadQuery", spec := "broadQuery", inPlace := ["maps.clone"], unfollowed := true, recurses := true, plainKeys := false, apart := false, narrowed := true }
def BroadQueryUptoSaid : Prop := broadQueryUptoRow.holds Try.pinned (OpenSpec.upto broadQuerySpec)

/-- 'marcheslaw06.BroadJoins', WHERE WHAT IT READS IS OF BULK AT MOST 1048576: true; the input reads as it did. -/
def broadJoinsUptoRow : OpenClaim := { program := "ytmgpmgckbcjalaa", sum := "28bac65c437d4c2143d204bce66ed1602935b88cf97dfc73249c09835f04f9d6", func := "marches/marcheslaw06.BroadJoins", spec := "broadJoins", inPlace := ["maps.clone"], unfollowed := true, recurses := true, plainKeys := false, apart := false, narrowed := true }
def BroadJoinsUptoSaid : Prop := broadJoinsUptoRow.holds Try.pinned (OpenSpec.upto broadJoinsSpec)

/-- 'marcheslaw06.BroadChanges', WHERE WHAT IT READS IS OF BULK AT MOST 1048576: true; the input reads as it did. -/
def broadChangesUptoRow : OpenClaim := { program := "ytmgpmgckbcjalaa", sum := "28bac65c437d4c2143d204bce66ed1602935b88cf97dfc73249c09835f04f9d6", func := "marches/marcheslaw06.BroadChanges", spec := "broadChanges", inPlace := ["maps.clone"], unfollowed := true, recurses := true, plainKeys := false, apart := false, narrowed := true }
def BroadChangesUptoSaid : Prop := broadChangesUptoRow.holds Try.pinned (OpenSpec.upto broadChangesSpec)

/-- 'marcheslaw06.BroadOrder', WHERE WHAT IT READS IS OF BULK AT MOST 1048576: true; the input reads as it did. -/
def broadOrderUptoRow : OpenClaim := { program := "ytmgpmgckbcjalaa", sum := "28bac65c437d4c2143d204bce66ed1602935b88cf97dfc73249c09835f04f9d6", func := "marches/marcheslaw06.BroadOrder", spec := "broadOrder", inPlace := ["maps.clone"], unfollowed := true, recurses := true, plainKeys := false, apart := false, narrowed := true }
def BroadOrderUptoSaid : Prop := broadOrderUptoRow.holds Try.pinned (OpenSpec.upto broadOrderSpec)

/-- 'marcheslaw06.BroadWrong', WHERE WHAT IT READS IS OF BULK AT MOST 1048576: true; the input reads as it did. -/
def broadWrongUptoRow : OpenClaim := { program := "ytmgpmgckbcjalaa", sum := "28bac65c437d4c2143d204bce66ed1602935b88cf97dfc73249c09835f04f9d6", func := "marches/marcheslaw06.BroadWrong", spec := "broadWrong", inPlace := ["maps.clone"], unfollowed := true, recurses := true, plainKeys := false, apart := false, narrowed := true }
def BroadWrongUptoSaid : Prop := broadWrongUptoRow.holds Try.pinned (OpenSpec.upto broadWrongSpec)

end Rows
end Go.Proofs.Ytmgpmgckbcjalaa
