/-
  DERIVED. GIVEN WITH THE SEED: THE CARDS: each row of YtaomhhkflohhgaaGreatDoorRows.lean that lists a variable, with what it lists TIED to the program's text (the seventh form; the later family's looks); each row that meets fmt, with fmt's text TOLD by the authors' own Lean function (tested against real Go, not proved from fmt's source: count such statements apart). THE CARD IS WHAT COUNTS. Prove the row's statement (the work); the ties are given (YtaomhhkflohhgaaGreatDoorTie.lean); close each card by the builder's one call (the guide's Derived/Test/ToyasCard.lean, 'card_holds'). Laid BY PROGRAM, IN A SANDBOX (cutbox-door.mjs). By AI agents, Wed Nov 11 2026. No macro, syntax, notation, axiom, sorry.
-/
import Derived.Test.YtaomhhkflohhgaaGreatDoorRows
import GoSem.ClaimSeven
namespace Go.Proofs.YtaomhhkflohhgaaGreatDoor
namespace Rows

/-- THE TIED CARD OF 'sibyllaw8.MacroGrows'. -/
def macroGrowsCard : Claim7 := { stood := { row := macroGrowsRow, standIns := [], harness := (true, "84d06a1a4ef3d5d6e1fa5b276e411a0be50d567ac1bb07a786ee7df5bcd6e6ce"), looks := false }, kinds := [], alts := [], laidByText := true, laidKinds := [.data, .pinned], laidTests := true, laidLooks := .later }
def MacroGrowsCardSaid : Prop := Claim7.holds Tryz.pinned (.plain (OpenSpec.ofChange macroGrowsSpec)) macroGrowsCard

/-- THE SECOND FORM's CARD OF 'sibyllaw8.MacroGrows'. -/
def macroGrowsUptoCard : Claim7 := { stood := { row := macroGrowsUptoRow, standIns := [], harness := (true, "84d06a1a4ef3d5d6e1fa5b276e411a0be50d567ac1bb07a786ee7df5bcd6e6ce"), looks := false }, kinds := [], alts := [], laidByText := true, laidKinds := [.data, .pinned], laidTests := true, laidLooks := .later }
def MacroGrowsUptoCardSaid : Prop := Claim7.holds Tryz.pinned (.plain (OpenSpec.upto macroGrowsSpec)) macroGrowsUptoCard
end Rows
end Go.Proofs.YtaomhhkflohhgaaGreatDoor
