/-
  DERIVED. GIVEN WITH THE SEED: THE CARDS: each row of YtmhlglginimmnaaGreatDoorRows.lean that lists a variable, with what it lists TIED to the program's text (the seventh form; the later family's looks); each row that meets fmt, with fmt's text TOLD by the authors' own Lean function (tested against real Go, not proved from fmt's source: count such statements apart). THE CARD IS WHAT COUNTS. Prove the row's statement (the work); the ties are given (YtmhlglginimmnaaGreatDoorTie.lean); close each card by the builder's one call (the guide's Derived/Test/ToyasCard.lean, 'card_holds'). Laid BY PROGRAM, IN A SANDBOX (cutbox-door.mjs). By AI agents, Wed Nov 11 2026. No macro, syntax, notation, axiom, sorry.
-/
import Derived.Test.YtmhlglginimmnaaGreatDoorRows
import GoSem.ClaimSeven
namespace Go.Proofs.YtmhlglginimmnaaGreatDoor
namespace Rows

/-- THE TIED CARD OF 'marcheslaw32.HandoverOrder'. -/
def handoverOrderCard : Claim7 := { stood := { row := handoverOrderRow, standIns := [], harness := (true, "a95b29eb92862aba7274b3b5e8fd660cb65288b5b4fb99be0158ff9633b046e4"), looks := true }, kinds := [], alts := [], laidByText := true, laidKinds := [.data], laidTests := true, laidLooks := .later }
def HandoverOrderCardSaid : Prop := Claim7.holds Tryz.pinned (.plain (OpenSpec.ofChange handoverOrderSpec)) handoverOrderCard

/-- THE TIED CARD OF 'marcheslaw32.HandoverReturns'. -/
def handoverReturnsCard : Claim7 := { stood := { row := handoverReturnsRow, standIns := [], harness := (true, "a95b29eb92862aba7274b3b5e8fd660cb65288b5b4fb99be0158ff9633b046e4"), looks := true }, kinds := [], alts := [], laidByText := true, laidKinds := [.data], laidTests := true, laidLooks := .later }
def HandoverReturnsCardSaid : Prop := Claim7.holds Tryz.pinned (.plain (OpenSpec.ofChange handoverReturnsSpec)) handoverReturnsCard

/-- THE TIED CARD OF 'marcheslaw32.HandoverLong'. -/
def handoverLongCard : Claim7 := { stood := { row := handoverLongRow, standIns := [], harness := (true, "a95b29eb92862aba7274b3b5e8fd660cb65288b5b4fb99be0158ff9633b046e4"), looks := true }, kinds := [], alts := [], laidByText := true, laidKinds := [.data], laidTests := true, laidLooks := .later }
def HandoverLongCardSaid : Prop := Claim7.holds Tryz.pinned (.plain (OpenSpec.ofChange handoverLongSpec)) handoverLongCard

/-- THE TIED CARD OF 'marcheslaw32.HandoverOnce'. -/
def handoverOnceCard : Claim7 := { stood := { row := handoverOnceRow, standIns := [], harness := (true, "a95b29eb92862aba7274b3b5e8fd660cb65288b5b4fb99be0158ff9633b046e4"), looks := true }, kinds := [], alts := [], laidByText := true, laidKinds := [.data], laidTests := true, laidLooks := .later }
def HandoverOnceCardSaid : Prop := Claim7.holds Tryz.pinned (.plain (OpenSpec.ofChange handoverOnceSpec)) handoverOnceCard

/-- THE TIED CARD OF 'marcheslaw32.HandoverTorn'. -/
def handoverTornCard : Claim7 := { stood := { row := handoverTornRow, standIns := [], harness := (true, "a95b29eb92862aba7274b3b5e8fd660cb65288b5b4fb99be0158ff9633b046e4"), looks := true }, kinds := [], alts := [], laidByText := true, laidKinds := [.data], laidTests := true, laidLooks := .later }
def HandoverTornCardSaid : Prop := Claim7.holds Tryz.pinned (.plain (OpenSpec.ofChange handoverTornSpec)) handoverTornCard

/-- THE TIED CARD OF 'marcheslaw32.HandoverWrong'. -/
def handoverWrongCard : Claim7 := { stood := { row := handoverWrongRow, standIns := [], harness := (true, "a95b29eb92862aba7274b3b5e8fd660cb65288b5b4fb99be0158ff9633b046e4"), looks := true }, kinds := [], alts := [], laidByText := true, laidKinds := [.data], laidTests := true, laidLooks := .later }
def HandoverWrongCardSaid : Prop := Claim7.holds Tryz.pinned (.plain (OpenSpec.ofChange handoverWrongSpec)) handoverWrongCard

/-- THE SECOND FORM's CARD OF 'marcheslaw32.HandoverOrder'. -/
def handoverOrderUptoCard : Claim7 := { stood := { row := handoverOrderUptoRow, standIns := [], harness := (true, "a95b29eb92862aba7274b3b5e8fd660cb65288b5b4fb99be0158ff9633b046e4"), looks := true }, kinds := [], alts := [], laidByText := true, laidKinds := [.data], laidTests := true, laidLooks := .later }
def HandoverOrderUptoCardSaid : Prop := Claim7.holds Tryz.pinned (.plain (OpenSpec.upto handoverOrderSpec)) handoverOrderUptoCard

/-- THE SECOND FORM's CARD OF 'marcheslaw32.HandoverReturns'. -/
def handoverReturnsUptoCard : Claim7 := { stood := { row := handoverReturnsUptoRow, standIns := [], harness := (true, "a95b29eb92862aba7274b3b5e8fd660cb65288b5b4fb99be0158ff9633b046e4"), looks := true }, kinds := [], alts := [], laidByText := true, laidKinds := [.data], laidTests := true, laidLooks := .later }
def HandoverReturnsUptoCardSaid : Prop := Claim7.holds Tryz.pinned (.plain (OpenSpec.upto handoverReturnsSpec)) handoverReturnsUptoCard

/-- THE SECOND FORM's CARD OF 'marcheslaw32.HandoverLong'. -/
def handoverLongUptoCard : Claim7 := { stood := { row := handoverLongUptoRow, standIns := [], harness := (true, "a95b29eb92862aba7274b3b5e8fd660cb65288b5b4fb99be0158ff9633b046e4"), looks := true }, kinds := [], alts := [], laidByText := true, laidKinds := [.data], laidTests := true, laidLooks := .later }
def HandoverLongUptoCardSaid : Prop := Claim7.holds Tryz.pinned (.plain (OpenSpec.upto handoverLongSpec)) handoverLongUptoCard

/-- THE SECOND FORM's CARD OF 'marcheslaw32.HandoverOnce'. -/
def handoverOnceUptoCard : Claim7 := { stood := { row := handoverOnceUptoRow, standIns := [], harness := (true, "a95b29eb92862aba7274b3b5e8fd660cb65288b5b4fb99be0158ff9633b046e4"), looks := true }, kinds := [], alts := [], laidByText := true, laidKinds := [.data], laidTests := true, laidLooks := .later }
def HandoverOnceUptoCardSaid : Prop := Claim7.holds Tryz.pinned (.plain (OpenSpec.upto handoverOnceSpec)) handoverOnceUptoCard

/-- THE SECOND FORM's CARD OF 'marcheslaw32.HandoverTorn'. -/
def handoverTornUptoCard : Claim7 := { stood := { row := handoverTornUptoRow, standIns := [], harness := (true, "a95b29eb92862aba7274b3b5e8fd660cb65288b5b4fb99be0158ff9633b046e4"), looks := true }, kinds := [], alts := [], laidByText := true, laidKinds := [.data], laidTests := true, laidLooks := .later }
def HandoverTornUptoCardSaid : Prop := Claim7.holds Tryz.pinned (.plain (OpenSpec.upto handoverTornSpec)) handoverTornUptoCard

/-- THE SECOND FORM's CARD OF 'marcheslaw32.HandoverWrong'. -/
def handoverWrongUptoCard : Claim7 := { stood := { row := handoverWrongUptoRow, standIns := [], harness := (true, "a95b29eb92862aba7274b3b5e8fd660cb65288b5b4fb99be0158ff9633b046e4"), looks := true }, kinds := [], alts := [], laidByText := true, laidKinds := [.data], laidTests := true, laidLooks := .later }
def HandoverWrongUptoCardSaid : Prop := Claim7.holds Tryz.pinned (.plain (OpenSpec.upto handoverWrongSpec)) handoverWrongUptoCard
end Rows
end Go.Proofs.YtmhlglginimmnaaGreatDoor
