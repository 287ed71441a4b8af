/-
  DERIVED. GIVEN WITH THE SEED: THE CARDS: each row of YtadjjadimlkkgaaGreatDoorRows.lean that lists a variable, with what it lists TIED to the program's text (the seventh form; the later family's looks); each row that meets fmt, with fmt's text TOLD by the authors' own Lean function (tested against real Go, not proved from fmt's source: count such statements apart). THE CARD IS WHAT COUNTS. Prove the row's statement (the work); the ties are given (YtadjjadimlkkgaaGreatDoorTie.lean); close each card by the builder's one call (the guide's Derived/Test/ToyasCard.lean, 'card_holds'). Laid BY PROGRAM, IN A SANDBOX (cutbox-door.mjs). By AI agents, Wed Nov 11 2026. No macro, syntax, notation, axiom, sorry.
-/
import Derived.Test.YtadjjadimlkkgaaGreatDoorRows
import GoSem.ClaimSeven
namespace Go.Proofs.YtadjjadimlkkgaaGreatDoor
namespace Rows

/-- THE TIED CARD OF 'sibyllaw6.KindsTexts'. -/
def kindsTextsCard : Claim7 := { stood := { row := kindsTextsRow, standIns := [], harness := (true, "15fd0e52f093de6f04b5baea4931d02d2ef612017a83ad74667d99b9cbf4356b"), looks := false }, kinds := [], alts := [], laidByText := true, laidKinds := [.data, .pinned], laidTests := true, laidLooks := .later }
def KindsTextsCardSaid : Prop := Claim7.holds Tryz.pinned (.plain (OpenSpec.ofChange kindsTextsSpec)) kindsTextsCard

/-- THE TIED CARD OF 'sibyllaw8.MacroNames'. -/
def macroNamesCard : Claim7 := { stood := { row := macroNamesRow, standIns := [], harness := (true, "15fd0e52f093de6f04b5baea4931d02d2ef612017a83ad74667d99b9cbf4356b"), looks := false }, kinds := [], alts := [], laidByText := true, laidKinds := [.data, .pinned], laidTests := true, laidLooks := .later }
def MacroNamesCardSaid : Prop := Claim7.holds Tryz.pinned (.plain (OpenSpec.ofChange macroNamesSpec)) macroNamesCard

/-- THE TIED CARD OF 'sibyllaw8.MacroCalls'. -/
def macroCallsCard : Claim7 := { stood := { row := macroCallsRow, standIns := [], harness := (true, "15fd0e52f093de6f04b5baea4931d02d2ef612017a83ad74667d99b9cbf4356b"), looks := false }, kinds := [], alts := [], laidByText := true, laidKinds := [.data, .pinned], laidTests := true, laidLooks := .later }
def MacroCallsCardSaid : Prop := Claim7.holds Tryz.pinned (.plain (OpenSpec.ofChange macroCallsSpec)) macroCallsCard

/-- THE TIED CARD OF 'sibyllaw10.LowerIs'. -/
def lowerIsCard : Claim7 := { stood := { row := lowerIsRow, standIns := [], harness := (true, "15fd0e52f093de6f04b5baea4931d02d2ef612017a83ad74667d99b9cbf4356b"), looks := false }, kinds := [], alts := [], laidByText := true, laidKinds := [.data, .pinned], laidTests := true, laidLooks := .later }
def LowerIsCardSaid : Prop := Claim7.holds Tryz.pinned (.plain (OpenSpec.ofChange lowerIsSpec)) lowerIsCard

/-- THE TIED CARD OF 'sibyllaw10.LowerNot'. -/
def lowerNotCard : Claim7 := { stood := { row := lowerNotRow, standIns := [], harness := (true, "15fd0e52f093de6f04b5baea4931d02d2ef612017a83ad74667d99b9cbf4356b"), looks := false }, kinds := [], alts := [], laidByText := true, laidKinds := [.data, .pinned], laidTests := true, laidLooks := .later }
def LowerNotCardSaid : Prop := Claim7.holds Tryz.pinned (.plain (OpenSpec.ofChange lowerNotSpec)) lowerNotCard

/-- THE TIED CARD OF 'sibyllaw4.ParseShown'. -/
def parseShownCard : Claim7 := { stood := { row := parseShownRow, standIns := [], harness := (true, "15fd0e52f093de6f04b5baea4931d02d2ef612017a83ad74667d99b9cbf4356b"), looks := false }, kinds := [], alts := [], laidByText := true, laidKinds := [.data, .pinned], laidTests := true, laidLooks := .later }
def ParseShownCardSaid : Prop := Claim7.holds Tryz.pinned (.plain (OpenSpec.ofChange parseShownSpec)) parseShownCard

/-- THE SECOND FORM's CARD OF 'sibyllaw6.KindsTexts'. -/
def kindsTextsUptoCard : Claim7 := { stood := { row := kindsTextsUptoRow, standIns := [], harness := (true, "15fd0e52f093de6f04b5baea4931d02d2ef612017a83ad74667d99b9cbf4356b"), looks := false }, kinds := [], alts := [], laidByText := true, laidKinds := [.data, .pinned], laidTests := true, laidLooks := .later }
def KindsTextsUptoCardSaid : Prop := Claim7.holds Tryz.pinned (.plain (OpenSpec.upto kindsTextsSpec)) kindsTextsUptoCard

/-- THE SECOND FORM's CARD OF 'sibyllaw8.MacroNames'. -/
def macroNamesUptoCard : Claim7 := { stood := { row := macroNamesUptoRow, standIns := [], harness := (true, "15fd0e52f093de6f04b5baea4931d02d2ef612017a83ad74667d99b9cbf4356b"), looks := false }, kinds := [], alts := [], laidByText := true, laidKinds := [.data, .pinned], laidTests := true, laidLooks := .later }
def MacroNamesUptoCardSaid : Prop := Claim7.holds Tryz.pinned (.plain (OpenSpec.upto macroNamesSpec)) macroNamesUptoCard

/-- THE SECOND FORM's CARD OF 'sibyllaw8.MacroCalls'. -/
def macroCallsUptoCard : Claim7 := { stood := { row := macroCallsUptoRow, standIns := [], harness := (true, "15fd0e52f093de6f04b5baea4931d02d2ef612017a83ad74667d99b9cbf4356b"), looks := false }, kinds := [], alts := [], laidByText := true, laidKinds := [.data, .pinned], laidTests := true, laidLooks := .later }
def MacroCallsUptoCardSaid : Prop := Claim7.holds Tryz.pinned (.plain (OpenSpec.upto macroCallsSpec)) macroCallsUptoCard

/-- THE SECOND FORM's CARD OF 'sibyllaw10.LowerIs'. -/
def lowerIsUptoCard : Claim7 := { stood := { row := lowerIsUptoRow, standIns := [], harness := (true, "15fd0e52f093de6f04b5baea4931d02d2ef612017a83ad74667d99b9cbf4356b"), looks := false }, kinds := [], alts := [], laidByText := true, laidKinds := [.data, .pinned], laidTests := true, laidLooks := .later }
def LowerIsUptoCardSaid : Prop := Claim7.holds Tryz.pinned (.plain (OpenSpec.upto lowerIsSpec)) lowerIsUptoCard

/-- THE SECOND FORM's CARD OF 'sibyllaw10.LowerNot'. -/
def lowerNotUptoCard : Claim7 := { stood := { row := lowerNotUptoRow, standIns := [], harness := (true, "15fd0e52f093de6f04b5baea4931d02d2ef612017a83ad74667d99b9cbf4356b"), looks := false }, kinds := [], alts := [], laidByText := true, laidKinds := [.data, .pinned], laidTests := true, laidLooks := .later }
def LowerNotUptoCardSaid : Prop := Claim7.holds Tryz.pinned (.plain (OpenSpec.upto lowerNotSpec)) lowerNotUptoCard

/-- THE SECOND FORM's CARD OF 'sibyllaw4.ParseShown'. -/
def parseShownUptoCard : Claim7 := { stood := { row := parseShownUptoRow, standIns := [], harness := (true, "15fd0e52f093de6f04b5baea4931d02d2ef612017a83ad74667d99b9cbf4356b"), looks := false }, kinds := [], alts := [], laidByText := true, laidKinds := [.data, .pinned], laidTests := true, laidLooks := .later }
def ParseShownUptoCardSaid : Prop := Claim7.holds Tryz.pinned (.plain (OpenSpec.upto parseShownSpec)) parseShownUptoCard
end Rows
end Go.Proofs.YtadjjadimlkkgaaGreatDoor
