/-
  No cell of these rows narrows 'for every input' (looked for: loops, veiled, ifaces, maps, wideKeys, modest, calm, conditions, laid).
  DERIVED. THE GIVEN ROWS OF THIS SEAT. 3 by the template 'for every input the law returns true; each argument reads behind the call as it read before'; 0 by the template 'total and deterministic' (their statements: YtmgpmgckbcjalaaGreatTotals.lean).
  GIVEN WITH THE SEED: the statements are not yours to turn. If you find one false, say at which input.
  Laid BY PROGRAM, IN A SANDBOX (cutbox-rows.mjs): the forced cells as the released guide's own fill.sh prints them over the translation c80214c5593ddd8d… (all of the seat's roots in one cut). By AI agents, Wed Nov 11 2026. No macro, syntax, notation, axiom, sorry.
-/
import Derived.Test.YtmgpmgckbcjalaaGreatChecked
import GoSem.Claim
import GoSem.ClaimJoined
import GoSem.ClaimMapViews
import Derived.JoinedTies
import Derived.KernelRfl
namespace Go.Proofs.YtmgpmgckbcjalaaGreat
/- THE CELL 'sum', in the pinned program and in every row, IS THE sha256 OF THE DUMP (.gsa) THAT YtmgpmgckbcjalaaGreatProg.lean LOADS. Nothing in Lean hashes anything: it is a label: what it is worth is what the hold of that sum in a sandbox is worth. -/
noncomputable def Tryz.pinned : Pinned := { name := "ytmgpmgckbcjalaagreat", sum := "c80214c5593ddd8d578b29356ee7374bf2bd30a1f3c98498a05842adffc56ea1", checked := Tryz.checked }
namespace Rows
def none {H : Type} : Left H := { results := [], args := [] }

/-- 'marcheslaw06.BroadPairs': WHATEVER THE INPUT: true; the input reads as it did. -/
def broadPairsSpec : ChangeSpec := { name := "broadPairs", fn := fun _ => fun
  | [d] => { results := [.lit (.bool true)], args := [d] }
  | _ => none }
def broadPairsRow : OpenClaim := { program := "ytmgpmgckbcjalaagreat", sum := "c80214c5593ddd8d578b29356ee7374bf2bd30a1f3c98498a05842adffc56ea1", func := "marches/marcheslaw06.BroadPairs", spec := "broadPairs", inPlace := ["maps.clone"], unfollowed := true, recurses := true, plainKeys := false, apart := false }
def BroadPairsSaid : Prop := broadPairsRow.holds Tryz.pinned (OpenSpec.ofChange broadPairsSpec)

/-- ITS FALSE NEIGHBOUR: 'it returns false'. Refute it at one input. -/
def broadPairsWrong : ChangeSpec := { name := "broadPairs", fn := fun _ => fun
  | [d] => { results := [.lit (.bool false)], args := [d] }
  | _ => none }
def BroadPairsWrongFalsely : Prop := broadPairsRow.holds Tryz.pinned (OpenSpec.ofChange broadPairsWrong)

/-- 'marcheslaw06.BroadPlays': WHATEVER THE INPUT: true; the input reads as it did. -/
def broadPlaysSpec : ChangeSpec := { name := "broadPlays", fn := fun _ => fun
  | [d] => { results := [.lit (.bool true)], args := [d] }
  | _ => none }
def broadPlaysRow : OpenClaim := { program := "ytmgpmgckbcjalaagreat", sum := "c80214c5593ddd8d578b29356ee7374bf2bd30a1f3c98498a05842adffc56ea1", func := "marches/marcheslaw06.BroadPlays", spec := "broadPlays", inPlace := ["maps.clone"], unfollowed := true, recurses := true, plainKeys := false, apart := false }
def BroadPlaysSaid : Prop := broadPlaysRow.holds Tryz.pinned (OpenSpec.ofChange broadPlaysSpec)

/-- ITS FALSE NEIGHBOUR: 'it returns false'. Refute it at one input. -/
def broadPlaysWrong : ChangeSpec := { name := "broadPlays", fn := fun _ => fun
  | [d] => { results := [.lit (.bool false)], args := [d] }
  | _ => none }
def BroadPlaysWrongFalsely : Prop := broadPlaysRow.holds Tryz.pinned (OpenSpec.ofChange broadPlaysWrong)

/-- 'marcheslaw06.BroadSmall': WHATEVER THE INPUT: true; the input reads as it did. -/
def broadSmallSpec : ChangeSpec := { name := "broadSmall", fn := fun _ => fun
  | [] => { results := [.lit (.bool true)], args := [] }
  | _ => none }
def broadSmallRow : OpenClaim := { program := "ytmgpmgckbcjalaagreat", sum := "c80214c5593ddd8d578b29356ee7374bf2bd30a1f3c98498a05842adffc56ea1", func := "marches/marcheslaw06.BroadSmall", spec := "broadSmall", inPlace := ["maps.clone"], unfollowed := true, recurses := true, plainKeys := false, apart := false }
def BroadSmallSaid : Prop := broadSmallRow.holds Tryz.pinned (OpenSpec.ofChange broadSmallSpec)

/-- ITS FALSE NEIGHBOUR: 'it returns false'. Refute it at one input. -/
def broadSmallWrong : ChangeSpec := { name := "broadSmall", fn := fun _ => fun
  | [] => { results := [.lit (.bool false)], args := [] }
  | _ => none }
def BroadSmallWrongFalsely : Prop := broadSmallRow.holds Tryz.pinned (OpenSpec.ofChange broadSmallWrong)

/- THE SECOND FORM. 'bulk': how many values and letters a reading holds, each counted each time it is reached (what is shared counts as often as it is met; a slice's spare places count too). A statement '..UptoSaid' is the law's where the arguments, and the package variables that the reading takes, are together of bulk at most 1048576: NARROWER than '..Said'. Prove '..Said' where nothing that the law and all that it calls make is longer than what came in: it says more and counts as full. Else prove '..UptoSaid'. A law counts once. -/
mutual
def uptoBulk {H : Type} : DataW H → Nat
  | .lit (.string bytes) => bytes.length + 1
  | .lit _ => 1
  | .nil => 1
  | .ptr d => uptoBulk d + 1
  | .slice elems spare => uptoBulkAll elems + uptoBulkAll spare + 1
  | .agg parts => uptoBulkAll parts + 1
  | .iface _ d => uptoBulk d + 1
  | .map entries => uptoBulkEntries entries + 1
  | .held _ => 1
def uptoBulkAll {H : Type} : List (DataW H) → Nat
  | [] => 0
  | d :: r => uptoBulk d + uptoBulkAll r
def uptoBulkEntries {H : Type} : List (Lit × DataW H) → Nat
  | [] => 0
  | x :: r => uptoBulkEntry x + uptoBulkEntries r
def uptoBulkEntry {H : Type} : Lit × DataW H → Nat
  | (.string bytes, d) => bytes.length + uptoBulk d + 1
  | (_, d) => uptoBulk d + 1
 end
def uptoSmall : (H : Type) → List (DataW H) → Bool := fun _ ds => decide (uptoBulkAll ds ≤ 1048576)
def OpenSpec.upto (s : _root_.Go.ChangeSpec) : _root_.Go.OpenSpec := { _root_.Go.OpenSpec.ofChange s with cond := some uptoSmall }

/-- 'marcheslaw06.BroadPairs', WHERE WHAT IT READS IS OF BULK AT MOST 1048576: true; the input reads as it did. -/
def broadPairsUptoRow : OpenClaim := { program := "ytmgpmgckbcjalaagreat", sum := "c80214c5593ddd8d578b29356ee7374bf2bd30a1f3c98498a05842adffc56ea1", func := "marches/marcheslaw06.BroadPairs", spec := "broadPairs", inPlace := ["maps.clone"], unfollowed := true, recurses := true, plainKeys := false, apart := false, narrowed := true }
def BroadPairsUptoSaid : Prop := broadPairsUptoRow.holds Tryz.pinned (OpenSpec.upto broadPairsSpec)

/-- 'marcheslaw06.BroadPlays', WHERE WHAT IT READS IS OF BULK AT MOST 1048576: true; the input reads as it did. -/
def broadPlaysUptoRow : OpenClaim := { program := "ytmgpmgckbcjalaagreat", sum := "c80214c5593ddd8d578b29356ee7374bf2bd30a1f3c98498a05842adffc56ea1", func := "marches/marcheslaw06.BroadPlays", spec := "broadPlays", inPlace := ["maps.clone"], unfollowed := true, recurses := true, plainKeys := false, apart := false, narrowed := true }
def BroadPlaysUptoSaid : Prop := broadPlaysUptoRow.holds Tryz.pinned (OpenSpec.upto broadPlaysSpec)

/-- 'marcheslaw06.BroadSmall', WHERE WHAT IT READS IS OF BULK AT MOST 1048576: true; the input reads as it did. -/
def broadSmallUptoRow : OpenClaim := { program := "ytmgpmgckbcjalaagreat", sum := "c80214c5593ddd8d578b29356ee7374bf2bd30a1f3c98498a05842adffc56ea1", func := "marches/marcheslaw06.BroadSmall", spec := "broadSmall", inPlace := ["maps.clone"], unfollowed := true, recurses := true, plainKeys := false, apart := false, narrowed := true }
def BroadSmallUptoSaid : Prop := broadSmallUptoRow.holds Tryz.pinned (OpenSpec.upto broadSmallSpec)

end Rows
end Go.Proofs.YtmgpmgckbcjalaaGreat
