/-
  NARROWER THAN 'FOR EVERY INPUT', by the rows' own cells (each row's printed sentence says how): HandoverOrder: laid · HandoverReturns: laid · HandoverLong: laid · HandoverOnce: laid · HandoverTorn: laid · HandoverWrong: laid.
  DERIVED. THE GIVEN ROWS OF THIS SEAT. 6 by the template 'for every input the law returns true; each argument reads behind the call as it read before'; 0 by the template 'total and deterministic' (their statements: YtmhlglginimmnaaGreatDoorTotals.lean).
  GIVEN WITH THE SEED: the statements are not yours to turn. If you find one false, say at which input.
  Laid BY PROGRAM, IN A SANDBOX (cutbox-rows.mjs): the forced cells as the released guide's own fill.sh prints them over the translation 2c27735aa6e0ab4f… (all of the seat's roots in one cut). By AI agents, Wed Nov 11 2026. No macro, syntax, notation, axiom, sorry.
-/
import Derived.Test.YtmhlglginimmnaaGreatDoorChecked
import GoSem.Claim
import GoSem.ClaimJoined
import GoSem.ClaimMapViews
import Derived.JoinedTies
import Derived.KernelRfl
namespace Go.Proofs.YtmhlglginimmnaaGreatDoor
/- THE CELL 'sum', in the pinned program and in every row, IS THE sha256 OF THE DUMP (.gsa) THAT YtmhlglginimmnaaGreatDoorProg.lean LOADS. Nothing in Lean hashes anything: it is a label: what it is worth is what the hold of that sum in a sandbox is worth. -/
noncomputable def Tryz.pinned : Pinned := { name := "ytmhlglginimmnaagreatdoor", sum := "2c27735aa6e0ab4f99f5a3540b74e65bdf142e992fd20e2d0b07feba784498c2", checked := Tryz.checked }
namespace Rows
def none {H : Type} : Left H := { results := [], args := [] }

/- WHAT THE LISTED PACKAGE-LEVEL VARIABLES READ AS WHEN THE CALL BEGINS. Each datum BY PROGRAM (the guide's laid-datum.mjs) off the statement by which the dump's own 'gosem.cut.vars' lays the variable. In a bare row this is a premise. The card (YtmhlglginimmnaaGreatDoorCards.lean) ties it to the program's text. -/
def laid_marches_store_ranges {H : Type} : DataW H := .agg [.agg [.agg [.lit (.int .i64 0), .lit (.int .i64 0)], .agg [.lit (.int .i64 0), .lit (.int .i64 0)], .agg [.lit (.int .i64 0), .lit (.int .i64 0)], .agg [.lit (.int .i64 0), .lit (.int .i64 0)]], .agg [.agg [.lit (.int .i64 (-1048576)), .lit (.int .i64 1048576)], .agg [.lit (.int .i64 (-1048576)), .lit (.int .i64 1048576)], .agg [.lit (.int .i64 0), .lit (.int .i64 0)], .agg [.lit (.int .i64 0), .lit (.int .i64 0)]], .agg [.agg [.lit (.int .i64 (-4096)), .lit (.int .i64 4096)], .agg [.lit (.int .i64 (-4096)), .lit (.int .i64 4096)], .agg [.lit (.int .i64 0), .lit (.int .i64 0)], .agg [.lit (.int .i64 0), .lit (.int .i64 0)]], .agg [.agg [.lit (.int .i64 1), .lit (.int .i64 16384)], .agg [.lit (.int .i64 1), .lit (.int .i64 16384)], .agg [.lit (.int .i64 0), .lit (.int .i64 1)], .agg [.lit (.int .i64 0), .lit (.int .i64 1)]], .agg [.agg [.lit (.int .i64 1), .lit (.int .i64 8)], .agg [.lit (.int .i64 0), .lit (.int .i64 0)], .agg [.lit (.int .i64 0), .lit (.int .i64 0)], .agg [.lit (.int .i64 0), .lit (.int .i64 0)]], .agg [.agg [.lit (.int .i64 0), .lit (.int .i64 510)], .agg [.lit (.int .i64 0), .lit (.int .i64 0)], .agg [.lit (.int .i64 0), .lit (.int .i64 0)], .agg [.lit (.int .i64 0), .lit (.int .i64 0)]], .agg [.agg [.lit (.int .i64 0), .lit (.int .i64 15)], .agg [.lit (.int .i64 0), .lit (.int .i64 0)], .agg [.lit (.int .i64 0), .lit (.int .i64 0)], .agg [.lit (.int .i64 0), .lit (.int .i64 0)]], .agg [.agg [.lit (.int .i64 (-2147483648)), .lit (.int .i64 2147483647)], .agg [.lit (.int .i64 (-2147483648)), .lit (.int .i64 2147483647)], .agg [.lit (.int .i64 (-2147483648)), .lit (.int .i64 2147483647)], .agg [.lit (.int .i64 (-2147483648)), .lit (.int .i64 2147483647)]], .agg [.agg [.lit (.int .i64 0), .lit (.int .i64 1048576)], .agg [.lit (.int .i64 0), .lit (.int .i64 1048576)], .agg [.lit (.int .i64 0), .lit (.int .i64 0)], .agg [.lit (.int .i64 0), .lit (.int .i64 0)]], .agg [.agg [.lit (.int .i64 0), .lit (.int .i64 2147483647)], .agg [.lit (.int .i64 0), .lit (.int .i64 2147483647)], .agg [.lit (.int .i64 0), .lit (.int .i64 2147483647)], .agg [.lit (.int .i64 0), .lit (.int .i64 2147483647)]], .agg [.agg [.lit (.int .i64 (-2147483648)), .lit (.int .i64 2147483647)], .agg [.lit (.int .i64 (-2147483648)), .lit (.int .i64 2147483647)], .agg [.lit (.int .i64 (-2147483648)), .lit (.int .i64 2147483647)], .agg [.lit (.int .i64 (-2147483648)), .lit (.int .i64 2147483647)]]]

/-- 'marcheslaw32.HandoverOrder': WHATEVER THE INPUT: true; the input reads as it did. -/
def handoverOrderSpec : ChangeSpec := { name := "handoverOrder", fn := fun _ => fun
  | [d1, d2] => { results := [.lit (.bool true)], args := [d1, d2] }
  | _ => none }
def handoverOrderRow : OpenClaim := { program := "ytmhlglginimmnaagreatdoor", sum := "2c27735aa6e0ab4f99f5a3540b74e65bdf142e992fd20e2d0b07feba784498c2", func := "marches/marcheslaw32.HandoverOrder", spec := "handoverOrder", unfollowed := true, recurses := true, named := ["marches/store.ranges"], apart := false, laid := [("marches/store.ranges", laid_marches_store_ranges)] }
def HandoverOrderSaid : Prop := handoverOrderRow.holds Tryz.pinned (OpenSpec.ofChange handoverOrderSpec)

/-- ITS FALSE NEIGHBOUR: 'it returns false'. Refute it at one input. -/
def handoverOrderWrong : ChangeSpec := { name := "handoverOrder", fn := fun _ => fun
  | [d1, d2] => { results := [.lit (.bool false)], args := [d1, d2] }
  | _ => none }
def HandoverOrderWrongFalsely : Prop := handoverOrderRow.holds Tryz.pinned (OpenSpec.ofChange handoverOrderWrong)

/-- 'marcheslaw32.HandoverReturns': WHATEVER THE INPUT: true; the input reads as it did. -/
def handoverReturnsSpec : ChangeSpec := { name := "handoverReturns", fn := fun _ => fun
  | [d] => { results := [.lit (.bool true)], args := [d] }
  | _ => none }
def handoverReturnsRow : OpenClaim := { program := "ytmhlglginimmnaagreatdoor", sum := "2c27735aa6e0ab4f99f5a3540b74e65bdf142e992fd20e2d0b07feba784498c2", func := "marches/marcheslaw32.HandoverReturns", spec := "handoverReturns", unfollowed := true, recurses := true, named := ["marches/store.ranges"], apart := false, laid := [("marches/store.ranges", laid_marches_store_ranges)] }
def HandoverReturnsSaid : Prop := handoverReturnsRow.holds Tryz.pinned (OpenSpec.ofChange handoverReturnsSpec)

/-- ITS FALSE NEIGHBOUR: 'it returns false'. Refute it at one input. -/
def handoverReturnsWrong : ChangeSpec := { name := "handoverReturns", fn := fun _ => fun
  | [d] => { results := [.lit (.bool false)], args := [d] }
  | _ => none }
def HandoverReturnsWrongFalsely : Prop := handoverReturnsRow.holds Tryz.pinned (OpenSpec.ofChange handoverReturnsWrong)

/-- 'marcheslaw32.HandoverLong': WHATEVER THE INPUT: true; the input reads as it did. -/
def handoverLongSpec : ChangeSpec := { name := "handoverLong", fn := fun _ => fun
  | [d] => { results := [.lit (.bool true)], args := [d] }
  | _ => none }
def handoverLongRow : OpenClaim := { program := "ytmhlglginimmnaagreatdoor", sum := "2c27735aa6e0ab4f99f5a3540b74e65bdf142e992fd20e2d0b07feba784498c2", func := "marches/marcheslaw32.HandoverLong", spec := "handoverLong", unfollowed := true, recurses := true, named := ["marches/store.ranges"], apart := false, laid := [("marches/store.ranges", laid_marches_store_ranges)] }
def HandoverLongSaid : Prop := handoverLongRow.holds Tryz.pinned (OpenSpec.ofChange handoverLongSpec)

/-- ITS FALSE NEIGHBOUR: 'it returns false'. Refute it at one input. -/
def handoverLongWrong : ChangeSpec := { name := "handoverLong", fn := fun _ => fun
  | [d] => { results := [.lit (.bool false)], args := [d] }
  | _ => none }
def HandoverLongWrongFalsely : Prop := handoverLongRow.holds Tryz.pinned (OpenSpec.ofChange handoverLongWrong)

/-- 'marcheslaw32.HandoverOnce': WHATEVER THE INPUT: true; the input reads as it did. -/
def handoverOnceSpec : ChangeSpec := { name := "handoverOnce", fn := fun _ => fun
  | [d1, d2] => { results := [.lit (.bool true)], args := [d1, d2] }
  | _ => none }
def handoverOnceRow : OpenClaim := { program := "ytmhlglginimmnaagreatdoor", sum := "2c27735aa6e0ab4f99f5a3540b74e65bdf142e992fd20e2d0b07feba784498c2", func := "marches/marcheslaw32.HandoverOnce", spec := "handoverOnce", unfollowed := true, recurses := true, named := ["marches/store.ranges"], apart := false, laid := [("marches/store.ranges", laid_marches_store_ranges)] }
def HandoverOnceSaid : Prop := handoverOnceRow.holds Tryz.pinned (OpenSpec.ofChange handoverOnceSpec)

/-- ITS FALSE NEIGHBOUR: 'it returns false'. Refute it at one input. -/
def handoverOnceWrong : ChangeSpec := { name := "handoverOnce", fn := fun _ => fun
  | [d1, d2] => { results := [.lit (.bool false)], args := [d1, d2] }
  | _ => none }
def HandoverOnceWrongFalsely : Prop := handoverOnceRow.holds Tryz.pinned (OpenSpec.ofChange handoverOnceWrong)

/-- 'marcheslaw32.HandoverTorn': WHATEVER THE INPUT: true; the input reads as it did. -/
def handoverTornSpec : ChangeSpec := { name := "handoverTorn", fn := fun _ => fun
  | [d1, d2, d3] => { results := [.lit (.bool true)], args := [d1, d2, d3] }
  | _ => none }
def handoverTornRow : OpenClaim := { program := "ytmhlglginimmnaagreatdoor", sum := "2c27735aa6e0ab4f99f5a3540b74e65bdf142e992fd20e2d0b07feba784498c2", func := "marches/marcheslaw32.HandoverTorn", spec := "handoverTorn", unfollowed := true, recurses := true, named := ["marches/store.ranges"], apart := false, laid := [("marches/store.ranges", laid_marches_store_ranges)] }
def HandoverTornSaid : Prop := handoverTornRow.holds Tryz.pinned (OpenSpec.ofChange handoverTornSpec)

/-- ITS FALSE NEIGHBOUR: 'it returns false'. Refute it at one input. -/
def handoverTornWrong : ChangeSpec := { name := "handoverTorn", fn := fun _ => fun
  | [d1, d2, d3] => { results := [.lit (.bool false)], args := [d1, d2, d3] }
  | _ => none }
def HandoverTornWrongFalsely : Prop := handoverTornRow.holds Tryz.pinned (OpenSpec.ofChange handoverTornWrong)

/-- 'marcheslaw32.HandoverWrong': WHATEVER THE INPUT: true; the input reads as it did. -/
def handoverWrongSpec : ChangeSpec := { name := "handoverWrong", fn := fun _ => fun
  | [d] => { results := [.lit (.bool true)], args := [d] }
  | _ => none }
def handoverWrongRow : OpenClaim := { program := "ytmhlglginimmnaagreatdoor", sum := "2c27735aa6e0ab4f99f5a3540b74e65bdf142e992fd20e2d0b07feba784498c2", func := "marches/marcheslaw32.HandoverWrong", spec := "handoverWrong", unfollowed := true, recurses := true, named := ["marches/store.ranges"], apart := false, laid := [("marches/store.ranges", laid_marches_store_ranges)] }
def HandoverWrongSaid : Prop := handoverWrongRow.holds Tryz.pinned (OpenSpec.ofChange handoverWrongSpec)

/-- ITS FALSE NEIGHBOUR: 'it returns false'. Refute it at one input. -/
def handoverWrongWrong : ChangeSpec := { name := "handoverWrong", fn := fun _ => fun
  | [d] => { results := [.lit (.bool false)], args := [d] }
  | _ => none }
def HandoverWrongWrongFalsely : Prop := handoverWrongRow.holds Tryz.pinned (OpenSpec.ofChange handoverWrongWrong)

/- THE SECOND FORM. 'bulk': how many values and letters a reading holds, each counted each time it is reached (what is shared counts as often as it is met; a slice's spare places count too). A statement '..UptoSaid' is the law's where the arguments, and the package variables that the reading takes, are together of bulk at most 1048576: NARROWER than '..Said'. Prove '..Said' where nothing that the law and all that it calls make is longer than what came in: it says more and counts as full. Else prove '..UptoSaid'. A law counts once. -/
mutual
def uptoBulk {H : Type} : DataW H → Nat
  | .lit (.string bytes) => bytes.length + 1
  | .lit _ => 1
  | .nil => 1
  | .ptr d => uptoBulk d + 1
  | .slice elems spare => uptoBulkAll elems + uptoBulkAll spare + 1
  | .agg parts => uptoBulkAll parts + 1
  | .iface _ d => uptoBulk d + 1
  | .map entries => uptoBulkEntries entries + 1
  | .held _ => 1
def uptoBulkAll {H : Type} : List (DataW H) → Nat
  | [] => 0
  | d :: r => uptoBulk d + uptoBulkAll r
def uptoBulkEntries {H : Type} : List (Lit × DataW H) → Nat
  | [] => 0
  | x :: r => uptoBulkEntry x + uptoBulkEntries r
def uptoBulkEntry {H : Type} : Lit × DataW H → Nat
  | (.string bytes, d) => bytes.length + uptoBulk d + 1
  | (_, d) => uptoBulk d + 1
 end
def uptoSmall : (H : Type) → List (DataW H) → Bool := fun _ ds => decide (uptoBulkAll ds ≤ 1048576)
def OpenSpec.upto (s : _root_.Go.ChangeSpec) : _root_.Go.OpenSpec := { _root_.Go.OpenSpec.ofChange s with cond := some uptoSmall }

/-- 'marcheslaw32.HandoverOrder', WHERE WHAT IT READS IS OF BULK AT MOST 1048576: true; the input reads as it did. -/
def handoverOrderUptoRow : OpenClaim := { program := "ytmhlglginimmnaagreatdoor", sum := "2c27735aa6e0ab4f99f5a3540b74e65bdf142e992fd20e2d0b07feba784498c2", func := "marches/marcheslaw32.HandoverOrder", spec := "handoverOrder", unfollowed := true, recurses := true, named := ["marches/store.ranges"], apart := false, laid := [("marches/store.ranges", laid_marches_store_ranges)], narrowed := true }
def HandoverOrderUptoSaid : Prop := handoverOrderUptoRow.holds Tryz.pinned (OpenSpec.upto handoverOrderSpec)

/-- 'marcheslaw32.HandoverReturns', WHERE WHAT IT READS IS OF BULK AT MOST 1048576: true; the input reads as it did. -/
def handoverReturnsUptoRow : OpenClaim := { program := "ytmhlglginimmnaagreatdoor", sum := "2c27735aa6e0ab4f99f5a3540b74e65bdf142e992fd20e2d0b07feba784498c2", func := "marches/marcheslaw32.HandoverReturns", spec := "handoverReturns", unfollowed := true, recurses := true, named := ["marches/store.ranges"], apart := false, laid := [("marches/store.ranges", laid_marches_store_ranges)], narrowed := true }
def HandoverReturnsUptoSaid : Prop := handoverReturnsUptoRow.holds Tryz.pinned (OpenSpec.upto handoverReturnsSpec)

/-- 'marcheslaw32.HandoverLong', WHERE WHAT IT READS IS OF BULK AT MOST 1048576: true; the input reads as it did. -/
def handoverLongUptoRow : OpenClaim := { program := "ytmhlglginimmnaagreatdoor", sum := "2c27735aa6e0ab4f99f5a3540b74e65bdf142e992fd20e2d0b07feba784498c2", func := "marches/marcheslaw32.HandoverLong", spec := "handoverLong", unfollowed := true, recurses := true, named := ["marches/store.ranges"], apart := false, laid := [("marches/store.ranges", laid_marches_store_ranges)], narrowed := true }
def HandoverLongUptoSaid : Prop := handoverLongUptoRow.holds Tryz.pinned (OpenSpec.upto handoverLongSpec)

/-- 'marcheslaw32.HandoverOnce', WHERE WHAT IT READS IS OF BULK AT MOST 1048576: true; the input reads as it did. -/
def handoverOnceUptoRow : OpenClaim := { program := "ytmhlglginimmnaagreatdoor", sum := "2c27735aa6e0ab4f99f5a3540b74e65bdf142e992fd20e2d0b07feba784498c2", func := "marches/marcheslaw32.HandoverOnce", spec := "handoverOnce", unfollowed := true, recurses := true, named := ["marches/store.ranges"], apart := false, laid := [("marches/store.ranges", laid_marches_store_ranges)], narrowed := true }
def HandoverOnceUptoSaid : Prop := handoverOnceUptoRow.holds Tryz.pinned (OpenSpec.upto handoverOnceSpec)

/-- 'marcheslaw32.HandoverTorn', WHERE WHAT IT READS IS OF BULK AT MOST 1048576: true; the input reads as it did. -/
def handoverTornUptoRow : OpenClaim := { program := "ytmhlglginimmnaagreatdoor", sum := "2c27735aa6e0ab4f99f5a3540b74e65bdf142e992fd20e2d0b07feba784498c2", func := "marches/marcheslaw32.HandoverTorn", spec := "handoverTorn", unfollowed := true, recurses := true, named := ["marches/store.ranges"], apart := false, laid := [("marches/store.ranges", laid_marches_store_ranges)], narrowed := true }
def HandoverTornUptoSaid : Prop := handoverTornUptoRow.holds Tryz.pinned (OpenSpec.upto handoverTornSpec)

/-- 'marcheslaw32.HandoverWrong', WHERE WHAT IT READS IS OF BULK AT MOST 1048576: true; the input reads as it did. -/
def handoverWrongUptoRow : OpenClaim := { program := "ytmhlglginimmnaagreatdoor", sum := "2c27735aa6e0ab4f99f5a3540b74e65bdf142e992fd20e2d0b07feba784498c2", func := "marches/marcheslaw32.HandoverWrong", spec := "handoverWrong", unfollowed := true, recurses := true, named := ["marches/store.ranges"], apart := false, laid := [("marches/store.ranges", laid_marches_store_ranges)], narrowed := true }
def HandoverWrongUptoSaid : Prop := handoverWrongUptoRow.holds Tryz.pinned (OpenSpec.upto handoverWrongSpec)

end Rows
end Go.Proofs.YtmhlglginimmnaaGreatDoor
