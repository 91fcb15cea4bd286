/-
  DERIVED. GIVEN WITH THE SEED: THE CARDS: each row of YtbhkgodiencdlaaDoorRows.lean that lists a variable, with what it lists TIED to the program's text (the seventh form; the later family's looks); each row that meets fmt, with fmt's text TOLD by the authors' own Lean function (tested against real Go, not proved from fmt's source: count such statements apart). THE CARD IS WHAT COUNTS. Prove the row's statement (the work); the ties are given (YtbhkgodiencdlaaDoorTie.lean); close each card by the builder's one call (the guide's Derived/Test/ToyasCard.lean, 'card_holds'). Laid BY PROGRAM, IN A SANDBOX (cutbox-door.mjs). By AI agents, Wed Nov 11 2026. No macro, syntax, notation, axiom, sorry.
-/
import Derived.Test.YtbhkgodiencdlaaDoorRows
import GoSem.ClaimSeven
namespace Go.Proofs.YtbhkgodiencdlaaDoor
namespace Rows

/-- THE TIED CARD OF 'marcheslaw08.StepTells'. -/
def stepTellsCard : Claim7 := { stood := { row := stepTellsRow, standIns := [], harness := (true, "5324a8d977458f4d5620533aad542eeb84029718c32f5b57931217e422a72534"), looks := false }, kinds := [], alts := [], laidByText := true, laidKinds := [.funcs], laidTests := true, laidLooks := .later }
def StepTellsCardSaid : Prop := Claim7.holds Tryd.pinned (.plain (OpenSpec.ofChange stepTellsSpec)) stepTellsCard

/-- THE TIED CARD OF 'marcheslaw08.StepSmall'. -/
def stepSmallCard : Claim7 := { stood := { row := stepSmallRow, standIns := [], harness := (true, "5324a8d977458f4d5620533aad542eeb84029718c32f5b57931217e422a72534"), looks := false }, kinds := [], alts := [], laidByText := true, laidKinds := [.funcs], laidTests := true, laidLooks := .later }
def StepSmallCardSaid : Prop := Claim7.holds Tryd.pinned (.plain (OpenSpec.ofChange stepSmallSpec)) stepSmallCard

/-- THE TIED CARD OF 'marcheslaw08.StepRests'. -/
def stepRestsCard : Claim7 := { stood := { row := stepRestsRow, standIns := [], harness := (true, "5324a8d977458f4d5620533aad542eeb84029718c32f5b57931217e422a72534"), looks := false }, kinds := [], alts := [], laidByText := true, laidKinds := [.funcs], laidTests := true, laidLooks := .later }
def StepRestsCardSaid : Prop := Claim7.holds Tryd.pinned (.plain (OpenSpec.ofChange stepRestsSpec)) stepRestsCard

/-- THE TIED CARD OF 'marcheslaw08.StepRopes'. -/
def stepRopesCard : Claim7 := { stood := { row := stepRopesRow, standIns := [], harness := (true, "5324a8d977458f4d5620533aad542eeb84029718c32f5b57931217e422a72534"), looks := false }, kinds := [], alts := [], laidByText := true, laidKinds := [.funcs], laidTests := true, laidLooks := .later }
def StepRopesCardSaid : Prop := Claim7.holds Tryd.pinned (.plain (OpenSpec.ofChange stepRopesSpec)) stepRopesCard

/-- THE TIED CARD OF 'marcheslaw08.StepStops'. -/
def stepStopsCard : Claim7 := { stood := { row := stepStopsRow, standIns := [], harness := (true, "5324a8d977458f4d5620533aad542eeb84029718c32f5b57931217e422a72534"), looks := false }, kinds := [], alts := [], laidByText := true, laidKinds := [.funcs], laidTests := true, laidLooks := .later }
def StepStopsCardSaid : Prop := Claim7.holds Tryd.pinned (.plain (OpenSpec.ofChange stepStopsSpec)) stepStopsCard

/-- THE TIED CARD OF 'marcheslaw08.StepApart'. -/
def stepApartCard : Claim7 := { stood := { row := stepApartRow, standIns := [], harness := (true, "5324a8d977458f4d5620533aad542eeb84029718c32f5b57931217e422a72534"), looks := false }, kinds := [], alts := [], laidByText := true, laidKinds := [.funcs], laidTests := true, laidLooks := .later }
def StepApartCardSaid : Prop := Claim7.holds Tryd.pinned (.plain (OpenSpec.ofChange stepApartSpec)) stepApartCard

/-- THE TIED CARD OF 'marcheslaw08.StepFree'. -/
def stepFreeCard : Claim7 := { stood := { row := stepFreeRow, standIns := [], harness := (true, "5324a8d977458f4d5620533aad542eeb84029718c32f5b57931217e422a72534"), looks := false }, kinds := [], alts := [], laidByText := true, laidKinds := [.funcs], laidTests := true, laidLooks := .later }
def StepFreeCardSaid : Prop := Claim7.holds Tryd.pinned (.plain (OpenSpec.ofChange stepFreeSpec)) stepFreeCard

/-- THE TIED CARD OF 'marcheslaw08.StepBack'. -/
def stepBackCard : Claim7 := { stood := { row := stepBackRow, standIns := [], harness := (true, "5324a8d977458f4d5620533aad542eeb84029718c32f5b57931217e422a72534"), looks := false }, kinds := [], alts := [], laidByText := true, laidKinds := [.funcs], laidTests := true, laidLooks := .later }
def StepBackCardSaid : Prop := Claim7.holds Tryd.pinned (.plain (OpenSpec.ofChange stepBackSpec)) stepBackCard

/-- THE TIED CARD OF 'marcheslaw08.StepWrong'. -/
def stepWrongCard : Claim7 := { stood := { row := stepWrongRow, standIns := [], harness := (true, "5324a8d977458f4d5620533aad542eeb84029718c32f5b57931217e422a72534"), looks := false }, kinds := [], alts := [], laidByText := true, laidKinds := [.funcs], laidTests := true, laidLooks := .later }
def StepWrongCardSaid : Prop := Claim7.holds Tryd.pinned (.plain (OpenSpec.ofChange stepWrongSpec)) stepWrongCard

/-- THE SECOND FORM's CARD OF 'marcheslaw08.StepTells'. -/
def stepTellsUptoCard : Claim7 := { stood := { row := stepTellsUptoRow, standIns := [], harness := (true, "5324a8d977458f4d5620533aad542eeb84029718c32f5b57931217e422a72534"), looks := false }, kinds := [], alts := [], laidByText := true, laidKinds := [.funcs], laidTests := true, laidLooks := .later }
def StepTellsUptoCardSaid : Prop := Claim7.holds Tryd.pinned (.plain (OpenSpec.upto stepTellsSpec)) stepTellsUptoCard

/-- THE SECOND FORM's CARD OF 'marcheslaw08.StepSmall'. -/
def stepSmallUptoCard : Claim7 := { stood := { row := stepSmallUptoRow, standIns := [], harness := (true, "5324a8d977458f4d5620533aad542eeb84029718c32f5b57931217e422a72534"), looks := false }, kinds := [], alts := [], laidByText := true, laidKinds := [.funcs], laidTests := true, laidLooks := .later }
def StepSmallUptoCardSaid : Prop := Claim7.holds Tryd.pinned (.plain (OpenSpec.upto stepSmallSpec)) stepSmallUptoCard

/-- THE SECOND FORM's CARD OF 'marcheslaw08.StepRests'. -/
def stepRestsUptoCard : Claim7 := { stood := { row := stepRestsUptoRow, standIns := [], harness := (true, "5324a8d977458f4d5620533aad542eeb84029718c32f5b57931217e422a72534"), looks := false }, kinds := [], alts := [], laidByText := true, laidKinds := [.funcs], laidTests := true, laidLooks := .later }
def StepRestsUptoCardSaid : Prop := Claim7.holds Tryd.pinned (.plain (OpenSpec.upto stepRestsSpec)) stepRestsUptoCard

/-- THE SECOND FORM's CARD OF 'marcheslaw08.StepRopes'. -/
def stepRopesUptoCard : Claim7 := { stood := { row := stepRopesUptoRow, standIns := [], harness := (true, "5324a8d977458f4d5620533aad542eeb84029718c32f5b57931217e422a72534"), looks := false }, kinds := [], alts := [], laidByText := true, laidKinds := [.funcs], laidTests := true, laidLooks := .later }
def StepRopesUptoCardSaid : Prop := Claim7.holds Tryd.pinned (.plain (OpenSpec.upto stepRopesSpec)) stepRopesUptoCard

/-- THE SECOND FORM's CARD OF 'marcheslaw08.StepStops'. -/
def stepStopsUptoCard : Claim7 := { stood := { row := stepStopsUptoRow, standIns := [], harness := (true, "5324a8d977458f4d5620533aad542eeb84029718c32f5b57931217e422a72534"), looks := false }, kinds := [], alts := [], laidByText := true, laidKinds := [.funcs], laidTests := true, laidLooks := .later }
def StepStopsUptoCardSaid : Prop := Claim7.holds Tryd.pinned (.plain (OpenSpec.upto stepStopsSpec)) stepStopsUptoCard

/-- THE SECOND FORM's CARD OF 'marcheslaw08.StepApart'. -/
def stepApartUptoCard : Claim7 := { stood := { row := stepApartUptoRow, standIns := [], harness := (true, "5324a8d977458f4d5620533aad542eeb84029718c32f5b57931217e422a72534"), looks := false }, kinds := [], alts := [], laidByText := true, laidKinds := [.funcs], laidTests := true, laidLooks := .later }
def StepApartUptoCardSaid : Prop := Claim7.holds Tryd.pinned (.plain (OpenSpec.upto stepApartSpec)) stepApartUptoCard

/-- THE SECOND FORM's CARD OF 'marcheslaw08.StepFree'. -/
def stepFreeUptoCard : Claim7 := { stood := { row := stepFreeUptoRow, standIns := [], harness := (true, "5324a8d977458f4d5620533aad542eeb84029718c32f5b57931217e422a72534"), looks := false }, kinds := [], alts := [], laidByText := true, laidKinds := [.funcs], laidTests := true, laidLooks := .later }
def StepFreeUptoCardSaid : Prop := Claim7.holds Tryd.pinned (.plain (OpenSpec.upto stepFreeSpec)) stepFreeUptoCard

/-- THE SECOND FORM's CARD OF 'marcheslaw08.StepBack'. -/
def stepBackUptoCard : Claim7 := { stood := { row := stepBackUptoRow, standIns := [], harness := (true, "5324a8d977458f4d5620533aad542eeb84029718c32f5b57931217e422a72534"), looks := false }, kinds := [], alts := [], laidByText := true, laidKinds := [.funcs], laidTests := true, laidLooks := .later }
def StepBackUptoCardSaid : Prop := Claim7.holds Tryd.pinned (.plain (OpenSpec.upto stepBackSpec)) stepBackUptoCard

/-- THE SECOND FORM's CARD OF 'marcheslaw08.StepWrong'. -/
def stepWrongUptoCard : Claim7 := { stood := { row := stepWrongUptoRow, standIns := [], harness := (true, "5324a8d977458f4d5620533aad542eeb84029718c32f5b57931217e422a72534"), looks := false }, kinds := [], alts := [], laidByText := true, laidKinds := [.funcs], laidTests := true, laidLooks := .later }
def StepWrongUptoCardSaid : Prop := Claim7.holds Tryd.pinned (.plain (OpenSpec.upto stepWrongSpec)) stepWrongUptoCard
end Rows
end Go.Proofs.YtbhkgodiencdlaaDoor
