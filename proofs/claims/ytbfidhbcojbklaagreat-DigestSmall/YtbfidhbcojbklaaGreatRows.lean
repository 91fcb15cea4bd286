/-
  No cell of these rows narrows 'for every input' (looked for: loops, veiled, ifaces, maps, wideKeys, modest, calm, conditions, laid).
  DERIVED. THE GIVEN ROWS OF THIS SEAT. 2 by the template 'for every input the law returns true; each argument reads behind the call as it read before'; 0 by the template 'total and deterministic' (their statements: YtbfidhbcojbklaaGreatTotals.lean).
  GIVEN WITH THE SEED: the statements are not yours to turn. If you find one false, say at which input.
  Laid BY PROGRAM, IN A SANDBOX (cutbox-rows.mjs): the forced cells as the released guide's own fill.sh prints them over the translation fb574d56cbf0a04c… (all of the seat's roots in one cut). By AI agents, Wed Nov 11 2026. No macro, syntax, notation, axiom, sorry.
-/
import Derived.Test.YtbfidhbcojbklaaGreatChecked
import GoSem.Claim
import GoSem.ClaimJoined
import GoSem.ClaimMapViews
import Derived.JoinedTies
import Derived.KernelRfl
namespace Go.Proofs.YtbfidhbcojbklaaGreat
/- THE CELL 'sum', in the pinned program and in every row, IS THE sha256 OF THE DUMP (.gsa) THAT YtbfidhbcojbklaaGreatProg.lean LOADS. Nothing in Lean hashes anything: it is a label: what it is worth is what the hold of that sum in a sandbox is worth. -/
noncomputable def Tryz.pinned : Pinned := { name := "ytbfidhbcojbklaagreat", sum := "fb574d56cbf0a04ca903339c4b3e9d2a5c9cdd52b403555dd18c6dd871ae4e81", checked := Tryz.checked }
namespace Rows
def none {H : Type} : Left H := { results := [], args := [] }

/-- 'marcheslaw04.DigestFinds': WHATEVER THE INPUT: true; the input reads as it did. -/
def digestFindsSpec : ChangeSpec := { name := "digestFinds", fn := fun _ => fun
  | [d1, d2] => { results := [.lit (.bool true)], args := [d1, d2] }
  | _ => none }
def digestFindsRow : OpenClaim := { program := "ytbfidhbcojbklaagreat", sum := "fb574d56cbf0a04ca903339c4b3e9d2a5c9cdd52b403555dd18c6dd871ae4e81", func := "marches/marcheslaw04.DigestFinds", spec := "digestFinds", unfollowed := true, recurses := true, apart := false }
def DigestFindsSaid : Prop := digestFindsRow.holds Tryz.pinned (OpenSpec.ofChange digestFindsSpec)

/-- ITS FALSE NEIGHBOUR: 'it returns false'. Refute it at one input. -/
def digestFindsWrong : ChangeSpec := { name := "digestFinds", fn := fun _ => fun
  | [d1, d2] => { results := [.lit (.bool false)], args := [d1, d2] }
  | _ => none }
def DigestFindsWrongFalsely : Prop := digestFindsRow.holds Tryz.pinned (OpenSpec.ofChange digestFindsWrong)

/-- 'marcheslaw04.DigestSmall': WHATEVER THE INPUT: true; the input reads as it did. -/
def digestSmallSpec : ChangeSpec := { name := "digestSmall", fn := fun _ => fun
  | [] => { results := [.lit (.bool true)], args := [] }
  | _ => none }
def digestSmallRow : OpenClaim := { program := "ytbfidhbcojbklaagreat", sum := "fb574d56cbf0a04ca903339c4b3e9d2a5c9cdd52b403555dd18c6dd871ae4e81", func := "marches/marcheslaw04.DigestSmall", spec := "digestSmall", unfollowed := true, recurses := true, apart := false }
def DigestSmallSaid : Prop := digestSmallRow.holds Tryz.pinned (OpenSpec.ofChange digestSmallSpec)

/-- ITS FALSE NEIGHBOUR: 'it returns false'. Refute it at one input. -/
def digestSmallWrong : ChangeSpec := { name := "digestSmall", fn := fun _ => fun
  | [] => { results := [.lit (.bool false)], args := [] }
  | _ => none }
def DigestSmallWrongFalsely : Prop := digestSmallRow.holds Tryz.pinned (OpenSpec.ofChange digestSmallWrong)

/- THE SECOND FORM. 'bulk': how many values and letters a reading holds, each counted each time it is reached (what is shared counts as often as it is met; a slice's spare places count too). A statement '..UptoSaid' is the law's where the arguments, and the package variables that the reading takes, are together of bulk at most 1048576: NARROWER than '..Said'. Prove '..Said' where nothing that the law and all that it calls make is longer than what came in: it says more and counts as full. Else prove '..UptoSaid'. A law counts once. -/
mutual
def uptoBulk {H : Type} : DataW H → Nat
  | .lit (.string bytes) => bytes.length + 1
  | .lit _ => 1
  | .nil => 1
  | .ptr d => uptoBulk d + 1
  | .slice elems spare => uptoBulkAll elems + uptoBulkAll spare + 1
  | .agg parts => uptoBulkAll parts + 1
  | .iface _ d => uptoBulk d + 1
  | .map entries => uptoBulkEntries entries + 1
  | .held _ => 1
def uptoBulkAll {H : Type} : List (DataW H) → Nat
  | [] => 0
  | d :: r => uptoBulk d + uptoBulkAll r
def uptoBulkEntries {H : Type} : List (Lit × DataW H) → Nat
  | [] => 0
  | x :: r => uptoBulkEntry x + uptoBulkEntries r
def uptoBulkEntry {H : Type} : Lit × DataW H → Nat
  | (.string bytes, d) => bytes.length + uptoBulk d + 1
  | (_, d) => uptoBulk d + 1
 end
def uptoSmall : (H : Type) → List (DataW H) → Bool := fun _ ds => decide (uptoBulkAll ds ≤ 1048576)
def OpenSpec.upto (s : _root_.Go.ChangeSpec) : _root_.Go.OpenSpec := { _root_.Go.OpenSpec.ofChange s with cond := some uptoSmall }

/-- 'marcheslaw04.DigestFinds', WHERE WHAT IT READS IS OF BULK AT MOST 1048576: true; the input reads as it did. -/
def digestFindsUptoRow : OpenClaim := { program := "ytbfidhbcojbklaagreat", sum := "fb574d56cbf0a04ca903339c4b3e9d2a5c9cdd52b403555dd18c6dd871ae4e81", func := "marches/marcheslaw04.DigestFinds", spec := "digestFinds", unfollowed := true, recurses := true, apart := false, narrowed := true }
def DigestFindsUptoSaid : Prop := digestFindsUptoRow.holds Tryz.pinned (OpenSpec.upto digestFindsSpec)

/-- 'marcheslaw04.DigestSmall', WHERE WHAT IT READS IS OF BULK AT MOST 1048576: true; the input reads as it did. -/
def digestSmallUptoRow : OpenClaim := { program := "ytbfidhbcojbklaagreat", sum := "fb574d56cbf0a04ca903339c4b3e9d2a5c9cdd52b403555dd18c6dd871ae4e81", func := "marches/marcheslaw04.DigestSmall", spec := "digestSmall", unfollowed := true, recurses := true, apart := false, narrowed := true }
def DigestSmallUptoSaid : Prop := digestSmallUptoRow.holds Tryz.pinned (OpenSpec.upto digestSmallSpec)

end Rows
end Go.Proofs.YtbfidhbcojbklaaGreat
