/-
  No cell of these rows narrows 'for every input' (looked for: loops, veiled, ifaces, maps, wideKeys, modest, calm, conditions, laid).
  DERIVED. THE GIVEN ROWS OF THIS SEAT. 7 by the template 'for every input the law returns true; each argument reads behind the call as it read before'; 0 by the template 'total and deterministic' (their statements: YtjejfkajcbdgjaaGreatTotals.lean).
  GIVEN WITH THE SEED: the statements are not yours to turn. If you find one false, say at which input.
  Laid BY PROGRAM, IN A SANDBOX (cutbox-rows.mjs): the forced cells as the released guide's own fill.sh prints them over the translation b8bef3eafe11d7ef… (all of the seat's roots in one cut). By AI agents, Wed Nov 11 2026. No macro, syntax, notation, axiom, sorry.
-/
import Derived.Test.YtjejfkajcbdgjaaGreatChecked
import GoSem.Claim
import GoSem.ClaimJoined
import GoSem.ClaimMapViews
import Derived.JoinedTies
import Derived.KernelRfl
namespace Go.Proofs.YtjejfkajcbdgjaaGreat
/- THE CELL 'sum', in the pinned program and in every row, IS THE sha256 OF THE DUMP (.gsa) THAT YtjejfkajcbdgjaaGreatProg.lean LOADS. Nothing in Lean hashes anything: it is a label: what it is worth is what the hold of that sum in a sandbox is worth. -/
noncomputable def Tryz.pinned : Pinned := { name := "ytjejfkajcbdgjaagreat", sum := "b8bef3eafe11d7ef28250e596724e1a21515fc99c4d9e50b7f05438106bbbcfd", checked := Tryz.checked }
namespace Rows
def none {H : Type} : Left H := { results := [], args := [] }

/-- 'marcheslaw33.TradeWhole': WHATEVER THE INPUT: true; the input reads as it did. -/
def tradeWholeSpec : ChangeSpec := { name := "tradeWhole", fn := fun _ => fun
  | [d] => { results := [.lit (.bool true)], args := [d] }
  | _ => none }
def tradeWholeRow : OpenClaim := { program := "ytjejfkajcbdgjaagreat", sum := "b8bef3eafe11d7ef28250e596724e1a21515fc99c4d9e50b7f05438106bbbcfd", func := "marches/marcheslaw33.TradeWhole", spec := "tradeWhole", inPlace := ["maps.clone"], unfollowed := true, recurses := true, apart := false }
def TradeWholeSaid : Prop := tradeWholeRow.holds Tryz.pinned (OpenSpec.ofChange tradeWholeSpec)

/-- ITS FALSE NEIGHBOUR: 'it returns false'. Refute it at one input. -/
def tradeWholeWrong : ChangeSpec := { name := "tradeWhole", fn := fun _ => fun
  | [d] => { results := [.lit (.bool false)], args := [d] }
  | _ => none }
def TradeWholeWrongFalsely : Prop := tradeWholeRow.holds Tryz.pinned (OpenSpec.ofChange tradeWholeWrong)

/-- 'marcheslaw33.TradeNumbers': WHATEVER THE INPUT: true; the input reads as it did. -/
def tradeNumbersSpec : ChangeSpec := { name := "tradeNumbers", fn := fun _ => fun
  | [d1, d2] => { results := [.lit (.bool true)], args := [d1, d2] }
  | _ => none }
def tradeNumbersRow : OpenClaim := { program := "ytjejfkajcbdgjaagreat", sum := "b8bef3eafe11d7ef28250e596724e1a21515fc99c4d9e50b7f05438106bbbcfd", func := "marches/marcheslaw33.TradeNumbers", spec := "tradeNumbers", inPlace := ["maps.clone"], unfollowed := true, recurses := true, apart := false }
def TradeNumbersSaid : Prop := tradeNumbersRow.holds Tryz.pinned (OpenSpec.ofChange tradeNumbersSpec)

/-- ITS FALSE NEIGHBOUR: 'it returns false'. Refute it at one input. -/
def tradeNumbersWrong : ChangeSpec := { name := "tradeNumbers", fn := fun _ => fun
  | [d1, d2] => { results := [.lit (.bool false)], args := [d1, d2] }
  | _ => none }
def TradeNumbersWrongFalsely : Prop := tradeNumbersRow.holds Tryz.pinned (OpenSpec.ofChange tradeNumbersWrong)

/-- 'marcheslaw33.TradeTells': WHATEVER THE INPUT: true; the input reads as it did. -/
def tradeTellsSpec : ChangeSpec := { name := "tradeTells", fn := fun _ => fun
  | [d] => { results := [.lit (.bool true)], args := [d] }
  | _ => none }
def tradeTellsRow : OpenClaim := { program := "ytjejfkajcbdgjaagreat", sum := "b8bef3eafe11d7ef28250e596724e1a21515fc99c4d9e50b7f05438106bbbcfd", func := "marches/marcheslaw33.TradeTells", spec := "tradeTells", inPlace := ["maps.clone"], unfollowed := true, recurses := true, apart := false }
def TradeTellsSaid : Prop := tradeTellsRow.holds Tryz.pinned (OpenSpec.ofChange tradeTellsSpec)

/-- ITS FALSE NEIGHBOUR: 'it returns false'. Refute it at one input. -/
def tradeTellsWrong : ChangeSpec := { name := "tradeTells", fn := fun _ => fun
  | [d] => { results := [.lit (.bool false)], args := [d] }
  | _ => none }
def TradeTellsWrongFalsely : Prop := tradeTellsRow.holds Tryz.pinned (OpenSpec.ofChange tradeTellsWrong)

/-- 'marcheslaw33.TradeSmall': WHATEVER THE INPUT: true; the input reads as it did. -/
def tradeSmallSpec : ChangeSpec := { name := "tradeSmall", fn := fun _ => fun
  | [] => { results := [.lit (.bool true)], args := [] }
  | _ => none }
def tradeSmallRow : OpenClaim := { program := "ytjejfkajcbdgjaagreat", sum := "b8bef3eafe11d7ef28250e596724e1a21515fc99c4d9e50b7f05438106bbbcfd", func := "marches/marcheslaw33.TradeSmall", spec := "tradeSmall", inPlace := ["maps.clone"], unfollowed := true, recurses := true, apart := false }
def TradeSmallSaid : Prop := tradeSmallRow.holds Tryz.pinned (OpenSpec.ofChange tradeSmallSpec)

/-- ITS FALSE NEIGHBOUR: 'it returns false'. Refute it at one input. -/
def tradeSmallWrong : ChangeSpec := { name := "tradeSmall", fn := fun _ => fun
  | [] => { results := [.lit (.bool false)], args := [] }
  | _ => none }
def TradeSmallWrongFalsely : Prop := tradeSmallRow.holds Tryz.pinned (OpenSpec.ofChange tradeSmallWrong)

/-- 'marcheslaw33.TradeKept': WHATEVER THE INPUT: true; the input reads as it did. -/
def tradeKeptSpec : ChangeSpec := { name := "tradeKept", fn := fun _ => fun
  | [d] => { results := [.lit (.bool true)], args := [d] }
  | _ => none }
def tradeKeptRow : OpenClaim := { program := "ytjejfkajcbdgjaagreat", sum := "b8bef3eafe11d7ef28250e596724e1a21515fc99c4d9e50b7f05438106bbbcfd", func := "marches/marcheslaw33.TradeKept", spec := "tradeKept", inPlace := ["maps.clone"], unfollowed := true, recurses := true, apart := false }
def TradeKeptSaid : Prop := tradeKeptRow.holds Tryz.pinned (OpenSpec.ofChange tradeKeptSpec)

/-- ITS FALSE NEIGHBOUR: 'it returns false'. Refute it at one input. -/
def tradeKeptWrong : ChangeSpec := { name := "tradeKept", fn := fun _ => fun
  | [d] => { results := [.lit (.bool false)], args := [d] }
  | _ => none }
def TradeKeptWrongFalsely : Prop := tradeKeptRow.holds Tryz.pinned (OpenSpec.ofChange tradeKeptWrong)

/-- 'marcheslaw33.TradeOpens': WHATEVER THE INPUT: true; the input reads as it did. -/
def tradeOpensSpec : ChangeSpec := { name := "tradeOpens", fn := fun _ => fun
  | [d1, d2] => { results := [.lit (.bool true)], args := [d1, d2] }
  | _ => none }
def tradeOpensRow : OpenClaim := { program := "ytjejfkajcbdgjaagreat", sum := "b8bef3eafe11d7ef28250e596724e1a21515fc99c4d9e50b7f05438106bbbcfd", func := "marches/marcheslaw33.TradeOpens", spec := "tradeOpens", inPlace := ["maps.clone"], unfollowed := true, recurses := true, apart := false }
def TradeOpensSaid : Prop := tradeOpensRow.holds Tryz.pinned (OpenSpec.ofChange tradeOpensSpec)

/-- ITS FALSE NEIGHBOUR: 'it returns false'. Refute it at one input. -/
def tradeOpensWrong : ChangeSpec := { name := "tradeOpens", fn := fun _ => fun
  | [d1, d2] => { results := [.lit (.bool false)], args := [d1, d2] }
  | _ => none }
def TradeOpensWrongFalsely : Prop := tradeOpensRow.holds Tryz.pinned (OpenSpec.ofChange tradeOpensWrong)

/-- 'marcheslaw33.TradeLong': WHATEVER THE INPUT: true; the input reads as it did. -/
def tradeLongSpec : ChangeSpec := { name := "tradeLong", fn := fun _ => fun
  | [] => { results := [.lit (.bool true)], args := [] }
  | _ => none }
def tradeLongRow : OpenClaim := { program := "ytjejfkajcbdgjaagreat", sum := "b8bef3eafe11d7ef28250e596724e1a21515fc99c4d9e50b7f05438106bbbcfd", func := "marches/marcheslaw33.TradeLong", spec := "tradeLong", inPlace := ["maps.clone"], unfollowed := true, recurses := true, apart := false }
def TradeLongSaid : Prop := tradeLongRow.holds Tryz.pinned (OpenSpec.ofChange tradeLongSpec)

/-- ITS FALSE NEIGHBOUR: 'it returns false'. Refute it at one input. -/
def tradeLongWrong : ChangeSpec := { name := "tradeLong", fn := fun _ => fun
  | [] => { results := [.lit (.bool false)], args := [] }
  | _ => none }
def TradeLongWrongFalsely : Prop := tradeLongRow.holds Tryz.pinned (OpenSpec.ofChange tradeLongWrong)

/- THE SECOND FORM. 'bulk': how many values and letters a reading holds, each counted each time it is reached (what is shared counts as often as it is met; a slice's spare places count too). A statement '..UptoSaid' is the law's where the arguments, and the package variables that the reading takes, are together of bulk at most 1048576: NARROWER than '..Said'. Prove '..Said' where nothing that the law and all that it calls make is longer than what came in: it says more and counts as full. Else prove '..UptoSaid'. A law counts once. -/
mutual
def uptoBulk {H : Type} : DataW H → Nat
  | .lit (.string bytes) => bytes.length + 1
  | .lit _ => 1
  | .nil => 1
  | .ptr d => uptoBulk d + 1
  | .slice elems spare => uptoBulkAll elems + uptoBulkAll spare + 1
  | .agg parts => uptoBulkAll parts + 1
  | .iface _ d => uptoBulk d + 1
  | .map entries => uptoBulkEntries entries + 1
  | .held _ => 1
def uptoBulkAll {H : Type} : List (DataW H) → Nat
  | [] => 0
  | d :: r => uptoBulk d + uptoBulkAll r
def uptoBulkEntries {H : Type} : List (Lit × DataW H) → Nat
  | [] => 0
  | x :: r => uptoBulkEntry x + uptoBulkEntries r
def uptoBulkEntry {H : Type} : Lit × DataW H → Nat
  | (.string bytes, d) => bytes.length + uptoBulk d + 1
  | (_, d) => uptoBulk d + 1
 end
def uptoSmall : (H : Type) → List (DataW H) → Bool := fun _ ds => decide (uptoBulkAll ds ≤ 1048576)
def OpenSpec.upto (s : _root_.Go.ChangeSpec) : _root_.Go.OpenSpec := { _root_.Go.OpenSpec.ofChange s with cond := some uptoSmall }

/-- 'marcheslaw33.TradeWhole', WHERE WHAT IT READS IS OF BULK AT MOST 1048576: true; the input reads as it did. -/
def tradeWholeUptoRow : OpenClaim := { program := "ytjejfkajcbdgjaagreat", sum := "b8bef3eafe11d7ef28250e596724e1a21515fc99c4d9e50b7f05438106bbbcfd", func := "marches/marcheslaw33.TradeWhole", spec := "tradeWhole", inPlace := ["maps.clone"], unfollowed := true, recurses := true, apart := false, narrowed := true }
def TradeWholeUptoSaid : Prop := tradeWholeUptoRow.holds Tryz.pinned (OpenSpec.upto tradeWholeSpec)

/-- 'marcheslaw33.TradeNumbers', WHERE WHAT IT READS IS OF BULK AT MOST 1048576: true; the input reads as it did. -/
def tradeNumbersUptoRow : OpenClaim := { program := "ytjejfkajcbdgjaagreat", sum := "b8bef3eafe11d7ef28250e596724e1a21515fc99c4d9e50b7f05438106bbbcfd", func := "marches/marcheslaw33.TradeNumbers", spec := "tradeNumbers", inPlace := ["maps.clone"], unfollowed := true, recurses := true, apart := false, narrowed := true }
def TradeNumbersUptoSaid : Prop := tradeNumbersUptoRow.holds Tryz.pinned (OpenSpec.upto tradeNumbersSpec)

/-- 'marcheslaw33.TradeTells', WHERE WHAT IT READS IS OF BULK AT MOST 1048576: true; the input reads as it did. -/
def tradeTellsUptoRow : OpenClaim := { program := "ytjejfkajcbdgjaagreat", sum := "b8bef3eafe11d7ef28250e596724e1a21515fc99c4d9e50b7f05438106bbbcfd", func := "marches/marcheslaw33.TradeTells", spec := "tradeTells", inPlace := ["maps.clone"], unfollowed := true, recurses := true, apart := false, narrowed := true }
def TradeTellsUptoSaid : Prop := tradeTellsUptoRow.holds Tryz.pinned (OpenSpec.upto tradeTellsSpec)

/-- 'marcheslaw33.TradeSmall', WHERE WHAT IT READS IS OF BULK AT MOST 1048576: true; the input reads as it did. -/
def tradeSmallUptoRow : OpenClaim := { program := "ytjejfkajcbdgjaagreat", sum := "b8bef3eafe11d7ef28250e596724e1a21515fc99c4d9e50b7f05438106bbbcfd", func := "marches/marcheslaw33.TradeSmall", spec := "tradeSmall", inPlace := ["maps.clone"], unfollowed := true, recurses := true, apart := false, narrowed := true }
def TradeSmallUptoSaid : Prop := tradeSmallUptoRow.holds Tryz.pinned (OpenSpec.upto tradeSmallSpec)

/-- 'marcheslaw33.TradeKept', WHERE WHAT IT READS IS OF BULK AT MOST 1048576: true; the input reads as it did. -/
def tradeKeptUptoRow : OpenClaim := { program := "ytjejfkajcbdgjaagreat", sum := "b8bef3eafe11d7ef28250e596724e1a21515fc99c4d9e50b7f05438106bbbcfd", func := "marches/marcheslaw33.TradeKept", spec := "tradeKept", inPlace := ["maps.clone"], unfollowed := true, recurses := true, apart := false, narrowed := true }
def TradeKeptUptoSaid : Prop := tradeKeptUptoRow.holds Tryz.pinned (OpenSpec.upto tradeKeptSpec)

/-- 'marcheslaw33.TradeOpens', WHERE WHAT IT READS IS OF BULK AT MOST 1048576: true; the input reads as it did. -/
def tradeOpensUptoRow : OpenClaim := { program := "ytjejfkajcbdgjaagreat", sum := "b8bef3eafe11d7ef28250e596724e1a21515fc99c4d9e50b7f05438106bbbcfd", func := "marches/marcheslaw33.TradeOpens", spec := "tradeOpens", inPlace := ["maps.clone"], unfollowed := true, recurses := true, apart := false, narrowed := true }
def TradeOpensUptoSaid : Prop := tradeOpensUptoRow.holds Tryz.pinned (OpenSpec.upto tradeOpensSpec)

/-- 'marcheslaw33.TradeLong', WHERE WHAT IT READS IS OF BULK AT MOST 1048576: true; the input reads as it did. -/
def tradeLongUptoRow : OpenClaim := { program := "ytjejfkajcbdgjaagreat", sum := "b8bef3eafe11d7ef28250e596724e1a21515fc99c4d9e50b7f05438106bbbcfd", func := "marches/marcheslaw33.TradeLong", spec := "tradeLong", inPlace := ["maps.clone"], unfollowed := true, recurses := true, apart := false, narrowed := true }
def TradeLongUptoSaid : Prop := tradeLongUptoRow.holds Tryz.pinned (OpenSpec.upto tradeLongSpec)

end Rows
end Go.Proofs.YtjejfkajcbdgjaaGreat
