/-
  DERIVED. GIVEN WITH THE SEED: THE CARDS: each row of YtdkibofhppgbjaaGreatDoorRows.lean that lists a variable, with what it lists TIED to the program's text (the seventh form; the later family's looks); each row that meets fmt, with fmt's text TOLD by the authors' own Lean function (tested against real Go, not proved from fmt's source: count such statements apart). THE CARD IS WHAT COUNTS. Prove the row's statement (the work); the ties are given (YtdkibofhppgbjaaGreatDoorTie.lean); close each card by the builder's one call (the guide's Derived/Test/ToyasCard.lean, 'card_holds'). Laid BY PROGRAM, IN A SANDBOX (cutbox-door.mjs). By AI agents, Wed Nov 11 2026. No macro, syntax, notation, axiom, sorry.
-/
import Derived.Test.YtdkibofhppgbjaaGreatDoorRows
import GoSem.ClaimSeven
namespace Go.Proofs.YtdkibofhppgbjaaGreatDoor
namespace Rows

/-- THE TIED CARD OF 'marcheslaw08.StepWorlds'. -/
def stepWorldsCard : Claim7 := { stood := { row := stepWorldsRow, standIns := [], harness := (true, "5cf18f2c409939a9ce16f42f1a84ad1f68daf1a286d41e57a7f372726dde4895"), looks := false }, kinds := [], alts := [], laidByText := true, laidKinds := [.funcs], laidTests := true, laidLooks := .later }
def StepWorldsCardSaid : Prop := Claim7.holds Tryz.pinned (.plain (OpenSpec.ofChange stepWorldsSpec)) stepWorldsCard

/-- THE TIED CARD OF 'marcheslaw08.StepIslands'. -/
def stepIslandsCard : Claim7 := { stood := { row := stepIslandsRow, standIns := [], harness := (true, "5cf18f2c409939a9ce16f42f1a84ad1f68daf1a286d41e57a7f372726dde4895"), looks := false }, kinds := [], alts := [], laidByText := true, laidKinds := [.funcs], laidTests := true, laidLooks := .later }
def StepIslandsCardSaid : Prop := Claim7.holds Tryz.pinned (.plain (OpenSpec.ofChange stepIslandsSpec)) stepIslandsCard

/-- THE SECOND FORM's CARD OF 'marcheslaw08.StepWorlds'. -/
def stepWorldsUptoCard : Claim7 := { stood := { row := stepWorldsUptoRow, standIns := [], harness := (true, "5cf18f2c409939a9ce16f42f1a84ad1f68daf1a286d41e57a7f372726dde4895"), looks := false }, kinds := [], alts := [], laidByText := true, laidKinds := [.funcs], laidTests := true, laidLooks := .later }
def StepWorldsUptoCardSaid : Prop := Claim7.holds Tryz.pinned (.plain (OpenSpec.upto stepWorldsSpec)) stepWorldsUptoCard

/-- THE SECOND FORM's CARD OF 'marcheslaw08.StepIslands'. -/
def stepIslandsUptoCard : Claim7 := { stood := { row := stepIslandsUptoRow, standIns := [], harness := (true, "5cf18f2c409939a9ce16f42f1a84ad1f68daf1a286d41e57a7f372726dde4895"), looks := false }, kinds := [], alts := [], laidByText := true, laidKinds := [.funcs], laidTests := true, laidLooks := .later }
def StepIslandsUptoCardSaid : Prop := Claim7.holds Tryz.pinned (.plain (OpenSpec.upto stepIslandsSpec)) stepIslandsUptoCard
end Rows
end Go.Proofs.YtdkibofhppgbjaaGreatDoor
