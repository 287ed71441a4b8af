/-
  DERIVED. GIVEN WITH THE SEED: THE CARDS: each row of YtildagdnomiahaaGreatDoorRows.lean that lists a variable, with what it lists TIED to the program's text (the seventh form; the later family's looks); each row that meets fmt, with fmt's text TOLD by the authors' own Lean function (tested against real Go, not proved from fmt's source: count such statements apart). THE CARD IS WHAT COUNTS. Prove the row's statement (the work); the ties are given (YtildagdnomiahaaGreatDoorTie.lean); close each card by the builder's one call (the guide's Derived/Test/ToyasCard.lean, 'card_holds'). Laid BY PROGRAM, IN A SANDBOX (cutbox-door.mjs). By AI agents, Wed Nov 11 2026. No macro, syntax, notation, axiom, sorry.
-/
import Derived.Test.YtildagdnomiahaaGreatDoorRows
import GoSem.ClaimSeven
namespace Go.Proofs.YtildagdnomiahaaGreatDoor
namespace Rows

/-- THE TIED CARD OF 'sibyltop.TopParse'. -/
def topParseCard : Claim7 := { stood := { row := topParseRow, standIns := [], harness := (true, "d06b426fbfd670c04e289a368473787c2836e21a94c0013960fab666eb7c6222"), looks := true }, kinds := [], alts := [], laidByText := true, laidKinds := [.data, .data, .data, .data, .pinned], laidTests := true, laidLooks := .later }
def TopParseCardSaid : Prop := Claim7.holds Tryz.pinned (.plain (OpenSpec.ofChange topParseSpec)) topParseCard

/-- THE TIED CARD OF 'sibyllaw28.SolveGuard'. -/
def solveGuardCard : Claim7 := { stood := { row := solveGuardRow, standIns := [], harness := (true, "d06b426fbfd670c04e289a368473787c2836e21a94c0013960fab666eb7c6222"), looks := true }, kinds := [], alts := [], laidByText := true, laidKinds := [.data, .data, .data], laidTests := true, laidLooks := .later }
def SolveGuardCardSaid : Prop := Claim7.holds Tryz.pinned (.plain (OpenSpec.ofChange solveGuardSpec)) solveGuardCard

/-- THE TIED CARD OF 'sibyllaw28.SolveKnown'. -/
def solveKnownCard : Claim7 := { stood := { row := solveKnownRow, standIns := [], harness := (true, "d06b426fbfd670c04e289a368473787c2836e21a94c0013960fab666eb7c6222"), looks := true }, kinds := [], alts := [], laidByText := true, laidKinds := [.data, .data, .data], laidTests := true, laidLooks := .later }
def SolveKnownCardSaid : Prop := Claim7.holds Tryz.pinned (.plain (OpenSpec.ofChange solveKnownSpec)) solveKnownCard

/-- THE TIED CARD OF 'sibyllaw28.SolveLeast'. -/
def solveLeastCard : Claim7 := { stood := { row := solveLeastRow, standIns := [], harness := (true, "d06b426fbfd670c04e289a368473787c2836e21a94c0013960fab666eb7c6222"), looks := true }, kinds := [], alts := [], laidByText := true, laidKinds := [.data, .data, .data], laidTests := true, laidLooks := .later }
def SolveLeastCardSaid : Prop := Claim7.holds Tryz.pinned (.plain (OpenSpec.ofChange solveLeastSpec)) solveLeastCard

/-- THE SECOND FORM's CARD OF 'sibyltop.TopParse'. -/
def topParseUptoCard : Claim7 := { stood := { row := topParseUptoRow, standIns := [], harness := (true, "d06b426fbfd670c04e289a368473787c2836e21a94c0013960fab666eb7c6222"), looks := true }, kinds := [], alts := [], laidByText := true, laidKinds := [.data, .data, .data, .data, .pinned], laidTests := true, laidLooks := .later }
def TopParseUptoCardSaid : Prop := Claim7.holds Tryz.pinned (.plain (OpenSpec.upto topParseSpec)) topParseUptoCard

/-- THE SECOND FORM's CARD OF 'sibyllaw28.SolveGuard'. -/
def solveGuardUptoCard : Claim7 := { stood := { row := solveGuardUptoRow, standIns := [], harness := (true, "d06b426fbfd670c04e289a368473787c2836e21a94c0013960fab666eb7c6222"), looks := true }, kinds := [], alts := [], laidByText := true, laidKinds := [.data, .data, .data], laidTests := true, laidLooks := .later }
def SolveGuardUptoCardSaid : Prop := Claim7.holds Tryz.pinned (.plain (OpenSpec.upto solveGuardSpec)) solveGuardUptoCard

/-- THE SECOND FORM's CARD OF 'sibyllaw28.SolveKnown'. -/
def solveKnownUptoCard : Claim7 := { stood := { row := solveKnownUptoRow, standIns := [], harness := (true, "d06b426fbfd670c04e289a368473787c2836e21a94c0013960fab666eb7c6222"), looks := true }, kinds := [], alts := [], laidByText := true, laidKinds := [.data, .data, .data], laidTests := true, laidLooks := .later }
def SolveKnownUptoCardSaid : Prop := Claim7.holds Tryz.pinned (.plain (OpenSpec.upto solveKnownSpec)) solveKnownUptoCard

/-- THE SECOND FORM's CARD OF 'sibyllaw28.SolveLeast'. -/
def solveLeastUptoCard : Claim7 := { stood := { row := solveLeastUptoRow, standIns := [], harness := (true, "d06b426fbfd670c04e289a368473787c2836e21a94c0013960fab666eb7c6222"), looks := true }, kinds := [], alts := [], laidByText := true, laidKinds := [.data, .data, .data], laidTests := true, laidLooks := .later }
def SolveLeastUptoCardSaid : Prop := Claim7.holds Tryz.pinned (.plain (OpenSpec.upto solveLeastSpec)) solveLeastUptoCard
end Rows
end Go.Proofs.YtildagdnomiahaaGreatDoor
