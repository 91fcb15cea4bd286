/-
  No cell of these rows narrows 'for every input' (looked for: loops, veiled, ifaces, maps, wideKeys, modest, calm, conditions, laid).
  DERIVED. THE GIVEN ROWS OF THIS SEAT. 8 by the template 'for every input the law returns true; each argument reads behind the call as it read before'; 0 by the template 'total and deterministic' (their statements: YtkpdcajddpiknaaTotals.lean).
  GIVEN WITH THE SEED: the statements are not yours to turn. If you find one false, say at which input.
  Laid BY PROGRAM, IN A SANDBOX (cutbox-rows.mjs): the forced cells as the released guide's own fill.sh prints them over the translation 0d5bf9ac277e1638… (all of the seat's roots in one cut). By AI agents, Wed Nov 11 2026. No macro, syntax, notation, axiom, sorry.
-/
import Derived.Test.YtkpdcajddpiknaaChecked
import GoSem.Claim
import GoSem.ClaimJoined
import GoSem.ClaimMapViews
import Derived.JoinedTies
import Derived.KernelRfl
namespace Go.Proofs.Ytkpdcajddpiknaa
/- THE CELL 'sum', in the pinned program and in every row, IS THE sha256 OF THE DUMP (.gsa) THAT YtkpdcajddpiknaaProg.lean LOADS. Nothing in Lean hashes anything: it is a label: what it is worth is what the hold of that sum in a sandbox is worth. -/
noncomputable def Try.pinned : Pinned := { name := "ytkpdcajddpiknaa", sum := "0d5bf9ac277e1638e1d5b967148e0fc64c74a1fba6c4b741e764abed947147e9", checked := Try.checked }
namespace Rows
def none {H : Type} : Left H := { results := [], args := [] }

/-- 'marcheslaw31.JournalTorn': WHATEVER THE INPUT: true; the input reads as it did. -/
def journalTornSpec : ChangeSpec := { name := "journalTorn", fn := fun _ => fun
  | [d1, d2, d3] => { results := [.lit (.bool true)], args := [d1, d2, d3] }
  | _ => none }
def journalTornRow : OpenClaim := { program := "ytkpdcajddpiknaa", sum := "0d5bf9ac277e1638e1d5b967148e0fc64c74a1fba6c4b741e764abed947147e9", func := "marches/marcheslaw31.JournalTorn", spec := "journalTorn", unfollowed := true, recurses := true, apart := false }
def JournalTornSaid : Prop := journalTornRow.holds Try.pinned (OpenSpec.ofChange journalTornSpec)

/-- ITS FALSE NEIGHBOUR: 'it returns false'. Refute it at one input. -/
def journalTornWrong : ChangeSpec := { name := "journalTorn", fn := fun _ => fun
  | [d1, d2, d3] => { results := [.lit (.bool false)], args := [d1, d2, d3] }
  | _ => none }
def JournalTornWrongFalsely : Prop := journalTornRow.holds Try.pinned (OpenSpec.ofChange journalTornWrong)

/-- 'marcheslaw31.JournalNumbers': WHATEVER THE INPUT: true; the input reads as it did. -/
def journalNumbersSpec : ChangeSpec := { name := "journalNumbers", fn := fun _ => fun
  | [d] => { results := [.lit (.bool true)], args := [d] }
  | _ => none }
def journalNumbersRow : OpenClaim := { program := "ytkpdcajddpiknaa", sum := "0d5bf9ac277e1638e1d5b967148e0fc64c74a1fba6c4b741e764abed947147e9", func := "marches/marcheslaw31.JournalNumbers", spec := "journalNumbers", unfollowed := true, recurses := true, apart := false }
def JournalNumbersSaid : Prop := journalNumbersRow.holds Try.pinned (OpenSpec.ofChange journalNumbersSpec)

/-- ITS FALSE NEIGHBOUR: 'it returns false'. Refute it at one input. -/
def journalNumbersWrong : ChangeSpec := { name := "journalNumbers", fn := fun _ => fun
  | [d] => { results := [.lit (.bool false)], args := [d] }
  | _ => none }
def JournalNumbersWrongFalsely : Prop := journalNumbersRow.holds Try.pinned (OpenSpec.ofChange journalNumbersWrong)

/-- 'marcheslaw31.JournalTells': WHATEVER THE INPUT: true; the input reads as it did. -/
def journalTellsSpec : ChangeSpec := { name := "journalTells", fn := fun _ => fun
  | [d] => { results := [.lit (.bool true)], args := [d] }
  | _ => none }
def journalTellsRow : OpenClaim := { program := "ytkpdcajddpiknaa", sum := "0d5bf9ac277e1638e1d5b967148e0fc64c74a1fba6c4b741e764abed947147e9", func := "marches/marcheslaw31.JournalTells", spec := "journalTells", unfollowed := true, recurses := true, apart := false }
def JournalTellsSaid : Prop := journalTellsRow.holds Try.pinned (OpenSpec.ofChange journalTellsSpec)

/-- ITS FALSE NEIGHBOUR: 'it returns false'. Refute it at one input. -/
def journalTellsWrong : ChangeSpec := { name := "journalTells", fn := fun _ => fun
  | [d] => { results := [.lit (.bool false)], args := [d] }
  | _ => none }
def JournalTellsWrongFalsely : Prop := journalTellsRow.holds Try.pinned (OpenSpec.ofChange journalTellsWrong)

/-- 'marcheslaw31.JournalSmall': WHATEVER THE INPUT: true; the input reads as it did. -/
def journalSmallSpec : ChangeSpec := { name := "journalSmall", fn := fun _ => fun
  | [] => { results := [.lit (.bool true)], args := [] }
  | _ => none }
def journalSmallRow : OpenClaim := { program := "ytkpdcajddpiknaa", sum := "0d5bf9ac277e1638e1d5b967148e0fc64c74a1fba6c4b741e764abed947147e9", func := "marches/marcheslaw31.JournalSmall", spec := "journalSmall", unfollowed := true, recurses := true, apart := false }
def JournalSmallSaid : Prop := journalSmallRow.holds Try.pinned (OpenSpec.ofChange journalSmallSpec)

/-- ITS FALSE NEIGHBOUR: 'it returns false'. Refute it at one input. -/
def journalSmallWrong : ChangeSpec := { name := "journalSmall", fn := fun _ => fun
  | [] => { results := [.lit (.bool false)], args := [] }
  | _ => none }
def JournalSmallWrongFalsely : Prop := journalSmallRow.holds Try.pinned (OpenSpec.ofChange journalSmallWrong)

/-- 'marcheslaw31.JournalKeeps': WHATEVER THE INPUT: true; the input reads as it did. -/
def journalKeepsSpec : ChangeSpec := { name := "journalKeeps", fn := fun _ => fun
  | [d] => { results := [.lit (.bool true)], args := [d] }
  | _ => none }
def journalKeepsRow : OpenClaim := { program := "ytkpdcajddpiknaa", sum := "0d5bf9ac277e1638e1d5b967148e0fc64c74a1fba6c4b741e764abed947147e9", func := "marches/marcheslaw31.JournalKeeps", spec := "journalKeeps", unfollowed := true, recurses := true, apart := false }
def JournalKeepsSaid : Prop := journalKeepsRow.holds Try.pinned (OpenSpec.ofChange journalKeepsSpec)

/-- ITS FALSE NEIGHBOUR: 'it returns false'. Refute it at one input. -/
def journalKeepsWrong : ChangeSpec := { name := "journalKeeps", fn := fun _ => fun
  | [d] => { results := [.lit (.bool false)], args := [d] }
  | _ => none }
def JournalKeepsWrongFalsely : Prop := journalKeepsRow.holds Try.pinned (OpenSpec.ofChange journalKeepsWrong)

/-- 'marcheslaw31.JournalEvery': WHATEVER THE INPUT: true; the input reads as it did. -/
def journalEverySpec : ChangeSpec := { name := "journalEvery", fn := fun _ => fun
  | [d1, d2] => { results := [.lit (.bool true)], args := [d1, d2] }
  | _ => none }
def journalEveryRow : OpenClaim := { program := "ytkpdcajddpiknaa", sum := "0d5bf9ac277e1638e1d5b967148e0fc64c74a1fba6c4b741e764abed947147e9", func := "marches/marcheslaw31.JournalEvery", spec := "journalEvery", unfollowed := true, recurses := true, apart := false }
def JournalEverySaid : Prop := journalEveryRow.holds Try.pinned (OpenSpec.ofChange journalEverySpec)

/-- ITS FALSE NEIGHBOUR: 'it returns false'. Refute it at one input. -/
def journalEveryWrong : ChangeSpec := { name := "journalEvery", fn := fun _ => fun
  | [d1, d2] => { results := [.lit (.bool false)], args := [d1, d2] }
  | _ => none }
def JournalEveryWrongFalsely : Prop := journalEveryRow.holds Try.pinned (OpenSpec.ofChange journalEveryWrong)

/-- 'marcheslaw31.JournalHeads': WHATEVER THE INPUT: true; the input reads as it did. -/
def journalHeadsSpec : ChangeSpec := { name := "journalHeads", fn := fun _ => fun
  | [d1, d2, d3, d4, d5] => { results := [.lit (.bool true)], args := [d1, d2, d3, d4, d5] }
  | _ => none }
def journalHeadsRow : OpenClaim := { program := "ytkpdcajddpiknaa", sum := "0d5bf9ac277e1638e1d5b967148e0fc64c74a1fba6c4b741e764abed947147e9", func := "marches/marcheslaw31.JournalHeads", spec := "journalHeads", unfollowed := true, recurses := true, apart := false }
def JournalHeadsSaid : Prop := journalHeadsRow.holds Try.pinned (OpenSpec.ofChange journalHeadsSpec)

/-- ITS FALSE NEIGHBOUR: 'it returns false'. Refute it at one input. -/
def journalHeadsWrong : ChangeSpec := { name := "journalHeads", fn := fun _ => fun
  | [d1, d2, d3, d4, d5] => { results := [.lit (.bool false)], args := [d1, d2, d3, d4, d5] }
  | _ => none }
def JournalHeadsWrongFalsely : Prop := journalHeadsRow.holds Try.pinned (OpenSpec.ofChange journalHeadsWrong)

/-- 'marcheslaw31.JournalWrong': WHATEVER THE INPUT: true; the input reads as it did. -/
def journalWrongSpec : ChangeSpec := { name := "journalWrong", fn := fun _ => fun
  | [d1, d2, d3] => { results := [.lit (.bool true)], args := [d1, d2, d3] }
  | _ => none }
def journalWrongRow : OpenClaim := { program := "ytkpdcajddpiknaa", sum := "0d5bf9ac277e1638e1d5b967148e0fc64c74a1fba6c4b741e764abed947147e9", func := "marches/marcheslaw31.JournalWrong", spec := "journalWrong", unfollowed := true, recurses := true, apart := false }
def JournalWrongSaid : Prop := journalWrongRow.holds Try.pinned (OpenSpec.ofChange journalWrongSpec)

/-- ITS FALSE NEIGHBOUR: 'it returns false'. Refute it at one input. -/
def journalWrongWrong : ChangeSpec := { name := "journalWrong", fn := fun _ => fun
  | [d1, d2, d3] => { results := [.lit (.bool false)], args := [d1, d2, d3] }
  | _ => none }
def JournalWrongWrongFalsely : Prop := journalWrongRow.holds Try.pinned (OpenSpec.ofChange journalWrongWrong)

/- THE SECOND FORM. 'bulk': how many values and letters a reading holds, each counted each time it is reached (what is shared counts as often as it is met; a slice's spare places count too). A statement '..UptoSaid' is the law's where the arguments, and the package variables that the reading takes, are together of bulk at most 1048576: NARROWER than '..Said'. Prove '..Said' where nothing that the law and all that it calls make is longer than what came in: it says more and counts as full. Else prove '..UptoSaid'. A law counts once. -/
mutual
def uptoBulk {H : Type} : DataW H → Nat
  | .lit (.string bytes) => bytes.length + 1
  | .lit _ => 1
  | .nil => 1
  | .ptr d => uptoBulk d + 1
  | .slice elems spare => uptoBulkAll elems + uptoBulkAll spare + 1
  | .agg parts => uptoBulkAll parts + 1
  | .iface _ d => uptoBulk d + 1
  | .map entries => uptoBulkEntries entries + 1
  | .held _ => 1
def uptoBulkAll {H : Type} : List (DataW H) → Nat
  | [] => 0
  | d :: r => uptoBulk d + uptoBulkAll r
def uptoBulkEntries {H : Type} : List (Lit × DataW H) → Nat
  | [] => 0
  | x :: r => uptoBulkEntry x + uptoBulkEntries r
def uptoBulkEntry {H : Type} : Lit × DataW H → Nat
  | (.string bytes, d) => bytes.length + uptoBulk d + 1
  | (_, d) => uptoBulk d + 1
 end
def uptoSmall : (H : Type) → List (DataW H) → Bool := fun _ ds => decide (uptoBulkAll ds ≤ 1048576)
def OpenSpec.upto (s : _root_.Go.ChangeSpec) : _root_.Go.OpenSpec := { _root_.Go.OpenSpec.ofChange s with cond := some uptoSmall }

/-- 'marcheslaw31.JournalTorn', WHERE WHAT IT READS IS OF BULK AT MOST 1048576: true; the input reads as it did. -/
def journalTornUptoRow : OpenClaim := { program := "ytkpdcajddpiknaa", sum := "0d5bf9ac277e1638e1d5b967148e0fc64c74a1fba6c4b741e764abed947147e9", func := "marches/marcheslaw31.JournalTorn", spec := "journalTorn", unfollowed := true, recurses := true, apart := false, narrowed := true }
def JournalTornUptoSaid : Prop := journalTornUptoRow.holds Try.pinned (OpenSpec.upto journalTornSpec)

/-- 'marcheslaw31.JournalNumbers', WHERE WHAT IT READS IS OF BULK AT MOST 1048576: true; the input reads as it did. -/
def journalNumbersUptoRow : OpenClaim := { program := "ytkpdcajddpiknaa", sum := "0d5bf9ac277e1638e1d5b967148e0fc64c74a1fba6c4b741e764abed947147e9", func := "marches/marcheslaw31.JournalNumbers", spec := "journalNumbers", unfollowed := true, recurses := true, apart := false, narrowed := true }
def JournalNumbersUptoSaid : Prop := journalNumbersUptoRow.holds Try.pinned (OpenSpec.upto journalNumbersSpec)

/-- 'marcheslaw31.JournalTells', WHERE WHAT IT READS IS OF BULK AT MOST 1048576: true; the input reads as it did. -/
def journalTellsUptoRow : OpenClaim := { program := "ytkpdcajddpiknaa", sum := "0d5bf9ac277e1638e1d5b967148e0fc64c74a1fba6c4b741e764abed947147e9", func := "marches/marcheslaw31.JournalTells", spec := "journalTells", unfollowed := true, recurses := true, apart := false, narrowed := true }
def JournalTellsUptoSaid : Prop := journalTellsUptoRow.holds Try.pinned (OpenSpec.upto journalTellsSpec)

/-- 'marcheslaw31.JournalSmall', WHERE WHAT IT READS IS OF BULK AT MOST 1048576: true; the input reads as it did. -/
def journalSmallUptoRow : OpenClaim := { program := "ytkpdcajddpiknaa", sum := "0d5bf9ac277e1638e1d5b967148e0fc64c74a1fba6c4b741e764abed947147e9", func := "marches/marcheslaw31.JournalSmall", spec := "journalSmall", unfollowed := true, recurses := true, apart := false, narrowed := true }
def JournalSmallUptoSaid : Prop := journalSmallUptoRow.holds Try.pinned (OpenSpec.upto journalSmallSpec)

/-- 'marcheslaw31.JournalKeeps', WHERE WHAT IT READS IS OF BULK AT MOST 1048576: true; the input reads as it did. -/
def journalKeepsUptoRow : OpenClaim := { program := "ytkpdcajddpiknaa", sum := "0d5bf9ac277e1638e1d5b967148e0fc64c74a1fba6c4b741e764abed947147e9", func := "marches/marcheslaw31.JournalKeeps", spec := "journalKeeps", unfollowed := true, recurses := true, apart := false, narrowed := true }
def JournalKeepsUptoSaid : Prop := journalKeepsUptoRow.holds Try.pinned (OpenSpec.upto journalKeepsSpec)

/-- 'marcheslaw31.JournalEvery', WHERE WHAT IT READS IS OF BULK AT MOST 1048576: true; the input reads as it did. -/
def journalEveryUptoRow : OpenClaim := { program := "ytkpdcajddpiknaa", sum := "0d5bf9ac277e1638e1d5b967148e0fc64c74a1fba6c4b741e764abed947147e9", func := "marches/marcheslaw31.JournalEvery", spec := "journalEvery", unfollowed := true, recurses := true, apart := false, narrowed := true }
def JournalEveryUptoSaid : Prop := journalEveryUptoRow.holds Try.pinned (OpenSpec.upto journalEverySpec)

/-- 'marcheslaw31.JournalHeads', WHERE WHAT IT READS IS OF BULK AT MOST 1048576: true; the input reads as it did. -/
def journalHeadsUptoRow : OpenClaim := { program := "ytkpdcajddpiknaa", sum := "0d5bf9ac277e1638e1d5b967148e0fc64c74a1fba6c4b741e764abed947147e9", func := "marches/marcheslaw31.JournalHeads", spec := "journalHeads", unfollowed := true, recurses := true, apart := false, narrowed := true }
def JournalHeadsUptoSaid : Prop := journalHeadsUptoRow.holds Try.pinned (OpenSpec.upto journalHeadsSpec)

/-- 'marcheslaw31.JournalWrong', WHERE WHAT IT READS IS OF BULK AT MOST 1048576: true; the input reads as it did. -/
def journalWrongUptoRow : OpenClaim := { program := "ytkpdcajddpiknaa", sum := "0d5bf9ac277e1638e1d5b967148e0fc64c74a1fba6c4b741e764abed947147e9", func := "marches/marcheslaw31.JournalWrong", spec := "journalWrong", unfollowed := true, recurses := true, apart := false, narrowed := true }
def JournalWrongUptoSaid : Prop := journalWrongUptoRow.holds Try.pinned (OpenSpec.upto journalWrongSpec)

end Rows
end Go.Proofs.Ytkpdcajddpiknaa
