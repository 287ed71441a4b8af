/-
  DERIVED. GIVEN WITH THE SEED: THE CARDS: each row of YtaoglicedcgnoaaGreatDoorRows.lean that lists a variable, with what it lists TIED to the program's text (the seventh form; the later family's looks); each row that meets fmt, with fmt's text TOLD by the authors' own Lean function (tested against real Go, not proved from fmt's source: count such statements apart). THE CARD IS WHAT COUNTS. Prove the row's statement (the work); the ties are given (YtaoglicedcgnoaaGreatDoorTie.lean); close each card by the builder's one call (the guide's Derived/Test/ToyasCard.lean, 'card_holds'). Laid BY PROGRAM, IN A SANDBOX (cutbox-door.mjs). By AI agents, Wed Nov 11 2026. No macro, syntax, notation, axiom, sorry.
-/
import Derived.Test.YtaoglicedcgnoaaGreatDoorRows
import GoSem.ClaimSeven
namespace Go.Proofs.YtaoglicedcgnoaaGreatDoor
namespace Rows

/-- THE TIED CARD OF 'sibyllaw6.KindsWords'. -/
def kindsWordsCard : Claim7 := { stood := { row := kindsWordsRow, standIns := [], harness := (true, "2b1b8d90157ba5e1f3525c6306243956889c5389db5924a5add640db7190aea8"), looks := true }, kinds := [], alts := [], laidByText := true, laidKinds := [.data, .pinned], laidTests := true, laidLooks := .later }
def KindsWordsCardSaid : Prop := Claim7.holds Tryz.pinned (.plain (OpenSpec.ofChange kindsWordsSpec)) kindsWordsCard

/-- THE TIED CARD OF 'sibyllaw10.LowerForms'. -/
def lowerFormsCard : Claim7 := { stood := { row := lowerFormsRow, standIns := [], harness := (true, "2b1b8d90157ba5e1f3525c6306243956889c5389db5924a5add640db7190aea8"), looks := true }, kinds := [], alts := [], laidByText := true, laidKinds := [.data, .pinned], laidTests := true, laidLooks := .later }
def LowerFormsCardSaid : Prop := Claim7.holds Tryz.pinned (.plain (OpenSpec.ofChange lowerFormsSpec)) lowerFormsCard

/-- THE TIED CARD OF 'sibyllaw10.LowerLimits'. -/
def lowerLimitsCard : Claim7 := { stood := { row := lowerLimitsRow, standIns := [], harness := (true, "2b1b8d90157ba5e1f3525c6306243956889c5389db5924a5add640db7190aea8"), looks := true }, kinds := [], alts := [], laidByText := true, laidKinds := [.data, .pinned], laidTests := true, laidLooks := .later }
def LowerLimitsCardSaid : Prop := Claim7.holds Tryz.pinned (.plain (OpenSpec.ofChange lowerLimitsSpec)) lowerLimitsCard

/-- THE TIED CARD OF 'sibyllaw8.MacroCaught'. -/
def macroCaughtCard : Claim7 := { stood := { row := macroCaughtRow, standIns := [], harness := (true, "2b1b8d90157ba5e1f3525c6306243956889c5389db5924a5add640db7190aea8"), looks := true }, kinds := [], alts := [], laidByText := true, laidKinds := [.data, .pinned], laidTests := true, laidLooks := .later }
def MacroCaughtCardSaid : Prop := Claim7.holds Tryz.pinned (.plain (OpenSpec.ofChange macroCaughtSpec)) macroCaughtCard

/-- THE TIED CARD OF 'sibyllaw8.MacroGrows'. -/
def macroGrowsCard : Claim7 := { stood := { row := macroGrowsRow, standIns := [], harness := (true, "2b1b8d90157ba5e1f3525c6306243956889c5389db5924a5add640db7190aea8"), looks := true }, kinds := [], alts := [], laidByText := true, laidKinds := [.data, .pinned], laidTests := true, laidLooks := .later }
def MacroGrowsCardSaid : Prop := Claim7.holds Tryz.pinned (.plain (OpenSpec.ofChange macroGrowsSpec)) macroGrowsCard

/-- THE TIED CARD OF 'sibyllaw26.CompTruths'. -/
def compTruthsCard : Claim7 := { stood := { row := compTruthsRow, standIns := [], harness := (true, "2b1b8d90157ba5e1f3525c6306243956889c5389db5924a5add640db7190aea8"), looks := true }, kinds := [], alts := [], laidByText := true, laidKinds := [.data, .data, .data], laidTests := true, laidLooks := .later }
def CompTruthsCardSaid : Prop := Claim7.holds Tryz.pinned (.plain (OpenSpec.ofChange compTruthsSpec)) compTruthsCard

/-- THE TIED CARD OF 'sibyllaw28.SolveKnown'. -/
def solveKnownCard : Claim7 := { stood := { row := solveKnownRow, standIns := [], harness := (true, "2b1b8d90157ba5e1f3525c6306243956889c5389db5924a5add640db7190aea8"), looks := true }, kinds := [], alts := [], laidByText := true, laidKinds := [.data, .data, .data], laidTests := true, laidLooks := .later }
def SolveKnownCardSaid : Prop := Claim7.holds Tryz.pinned (.plain (OpenSpec.ofChange solveKnownSpec)) solveKnownCard

/-- THE TIED CARD OF 'sibyllaw28.SolveLeast'. -/
def solveLeastCard : Claim7 := { stood := { row := solveLeastRow, standIns := [], harness := (true, "2b1b8d90157ba5e1f3525c6306243956889c5389db5924a5add640db7190aea8"), looks := true }, kinds := [], alts := [], laidByText := true, laidKinds := [.data, .data, .data], laidTests := true, laidLooks := .later }
def SolveLeastCardSaid : Prop := Claim7.holds Tryz.pinned (.plain (OpenSpec.ofChange solveLeastSpec)) solveLeastCard

/-- THE SECOND FORM's CARD OF 'sibyllaw6.KindsWords'. -/
def kindsWordsUptoCard : Claim7 := { stood := { row := kindsWordsUptoRow, standIns := [], harness := (true, "2b1b8d90157ba5e1f3525c6306243956889c5389db5924a5add640db7190aea8"), looks := true }, kinds := [], alts := [], laidByText := true, laidKinds := [.data, .pinned], laidTests := true, laidLooks := .later }
def KindsWordsUptoCardSaid : Prop := Claim7.holds Tryz.pinned (.plain (OpenSpec.upto kindsWordsSpec)) kindsWordsUptoCard

/-- THE SECOND FORM's CARD OF 'sibyllaw10.LowerForms'. -/
def lowerFormsUptoCard : Claim7 := { stood := { row := lowerFormsUptoRow, standIns := [], harness := (true, "2b1b8d90157ba5e1f3525c6306243956889c5389db5924a5add640db7190aea8"), looks := true }, kinds := [], alts := [], laidByText := true, laidKinds := [.data, .pinned], laidTests := true, laidLooks := .later }
def LowerFormsUptoCardSaid : Prop := Claim7.holds Tryz.pinned (.plain (OpenSpec.upto lowerFormsSpec)) lowerFormsUptoCard

/-- THE SECOND FORM's CARD OF 'sibyllaw10.LowerLimits'. -/
def lowerLimitsUptoCard : Claim7 := { stood := { row := lowerLimitsUptoRow, standIns := [], harness := (true, "2b1b8d90157ba5e1f3525c6306243956889c5389db5924a5add640db7190aea8"), looks := true }, kinds := [], alts := [], laidByText := true, laidKinds := [.data, .pinned], laidTests := true, laidLooks := .later }
def LowerLimitsUptoCardSaid : Prop := Claim7.holds Tryz.pinned (.plain (OpenSpec.upto lowerLimitsSpec)) lowerLimitsUptoCard

/-- THE SECOND FORM's CARD OF 'sibyllaw8.MacroCaught'. -/
def macroCaughtUptoCard : Claim7 := { stood := { row := macroCaughtUptoRow, standIns := [], harness := (true, "2b1b8d90157ba5e1f3525c6306243956889c5389db5924a5add640db7190aea8"), looks := true }, kinds := [], alts := [], laidByText := true, laidKinds := [.data, .pinned], laidTests := true, laidLooks := .later }
def MacroCaughtUptoCardSaid : Prop := Claim7.holds Tryz.pinned (.plain (OpenSpec.upto macroCaughtSpec)) macroCaughtUptoCard

/-- THE SECOND FORM's CARD OF 'sibyllaw8.MacroGrows'. -/
def macroGrowsUptoCard : Claim7 := { stood := { row := macroGrowsUptoRow, standIns := [], harness := (true, "2b1b8d90157ba5e1f3525c6306243956889c5389db5924a5add640db7190aea8"), looks := true }, kinds := [], alts := [], laidByText := true, laidKinds := [.data, .pinned], laidTests := true, laidLooks := .later }
def MacroGrowsUptoCardSaid : Prop := Claim7.holds Tryz.pinned (.plain (OpenSpec.upto macroGrowsSpec)) macroGrowsUptoCard

/-- THE SECOND FORM's CARD OF 'sibyllaw26.CompTruths'. -/
def compTruthsUptoCard : Claim7 := { stood := { row := compTruthsUptoRow, standIns := [], harness := (true, "2b1b8d90157ba5e1f3525c6306243956889c5389db5924a5add640db7190aea8"), looks := true }, kinds := [], alts := [], laidByText := true, laidKinds := [.data, .data, .data], laidTests := true, laidLooks := .later }
def CompTruthsUptoCardSaid : Prop := Claim7.holds Tryz.pinned (.plain (OpenSpec.upto compTruthsSpec)) compTruthsUptoCard

/-- THE SECOND FORM's CARD OF 'sibyllaw28.SolveKnown'. -/
def solveKnownUptoCard : Claim7 := { stood := { row := solveKnownUptoRow, standIns := [], harness := (true, "2b1b8d90157ba5e1f3525c6306243956889c5389db5924a5add640db7190aea8"), looks := true }, kinds := [], alts := [], laidByText := true, laidKinds := [.data, .data, .data], laidTests := true, laidLooks := .later }
def SolveKnownUptoCardSaid : Prop := Claim7.holds Tryz.pinned (.plain (OpenSpec.upto solveKnownSpec)) solveKnownUptoCard

/-- THE SECOND FORM's CARD OF 'sibyllaw28.SolveLeast'. -/
def solveLeastUptoCard : Claim7 := { stood := { row := solveLeastUptoRow, standIns := [], harness := (true, "2b1b8d90157ba5e1f3525c6306243956889c5389db5924a5add640db7190aea8"), looks := true }, kinds := [], alts := [], laidByText := true, laidKinds := [.data, .data, .data], laidTests := true, laidLooks := .later }
def SolveLeastUptoCardSaid : Prop := Claim7.holds Tryz.pinned (.plain (OpenSpec.upto solveLeastSpec)) solveLeastUptoCard
end Rows
end Go.Proofs.YtaoglicedcgnoaaGreatDoor
