/-
  DERIVED. GIVEN WITH THE SEED: THE CARDS: each row of YtmgkfceomhagaaaGreatDoorRows.lean that lists a variable, with what it lists TIED to the program's text (the seventh form; the later family's looks); each row that meets fmt, with fmt's text TOLD by the authors' own Lean function (tested against real Go, not proved from fmt's source: count such statements apart). THE CARD IS WHAT COUNTS. Prove the row's statement (the work); the ties are given (YtmgkfceomhagaaaGreatDoorTie.lean); close each card by the builder's one call (the guide's Derived/Test/ToyasCard.lean, 'card_holds'). Laid BY PROGRAM, IN A SANDBOX (cutbox-door.mjs). By AI agents, Wed Nov 11 2026. No macro, syntax, notation, axiom, sorry.
-/
import Derived.Test.YtmgkfceomhagaaaGreatDoorRows
import GoSem.ClaimSeven
namespace Go.Proofs.YtmgkfceomhagaaaGreatDoor
namespace Rows

/-- THE TIED CARD OF 'sibyllaw4.ParseShown'. -/
def parseShownCard : Claim7 := { stood := { row := parseShownRow, standIns := [], harness := (true, "026e431ca9e4061f1963debe5862f8151af2ffa04898417aeb80d03c888f3cde"), looks := false }, kinds := [], alts := [], laidByText := true, laidKinds := [.data, .pinned], laidTests := true, laidLooks := .later }
def ParseShownCardSaid : Prop := Claim7.holds Tryz.pinned (.plain (OpenSpec.ofChange parseShownSpec)) parseShownCard

/-- THE SECOND FORM's CARD OF 'sibyllaw4.ParseShown'. -/
def parseShownUptoCard : Claim7 := { stood := { row := parseShownUptoRow, standIns := [], harness := (true, "026e431ca9e4061f1963debe5862f8151af2ffa04898417aeb80d03c888f3cde"), looks := false }, kinds := [], alts := [], laidByText := true, laidKinds := [.data, .pinned], laidTests := true, laidLooks := .later }
def ParseShownUptoCardSaid : Prop := Claim7.holds Tryz.pinned (.plain (OpenSpec.upto parseShownSpec)) parseShownUptoCard
end Rows
end Go.Proofs.YtmgkfceomhagaaaGreatDoor
