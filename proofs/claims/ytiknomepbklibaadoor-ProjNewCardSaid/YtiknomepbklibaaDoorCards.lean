/-
  DERIVED. GIVEN WITH THE SEED: THE CARDS: each row of YtiknomepbklibaaDoorRows.lean that lists a variable, with what it lists TIED to the program's text (the seventh form; the later family's looks); each row that meets fmt, with fmt's text TOLD by the authors' own Lean function (tested against real Go, not proved from fmt's source: count such statements apart). THE CARD IS WHAT COUNTS. Prove the row's statement (the work); the ties are given (YtiknomepbklibaaDoorTie.lean); close each card by the builder's one call (the guide's Derived/Test/ToyasCard.lean, 'card_holds'). Laid BY PROGRAM, IN A SANDBOX (cutbox-door.mjs). By AI agents, Wed Nov 11 2026. No macro, syntax, notation, axiom, sorry.
-/
import Derived.Test.YtiknomepbklibaaDoorRows
import GoSem.ClaimSeven
namespace Go.Proofs.YtiknomepbklibaaDoor
namespace Rows

/-- THE TIED CARD OF 'sibyllaw22.ProjCloses'. -/
def projClosesCard : Claim7 := { stood := { row := projClosesRow, standIns := [], harness := (true, "7340051bb49181c7fa3bedc4d4ba674d193e56758b9ae73c70cd23c3af432481"), looks := true }, kinds := [], alts := [], laidByText := true, laidKinds := [.data, .data, .data], laidTests := true, laidLooks := .later }
def ProjClosesCardSaid : Prop := Claim7.holds Tryd.pinned (.plain (OpenSpec.ofChange projClosesSpec)) projClosesCard

/-- THE TIED CARD OF 'sibyllaw22.ProjNew'. -/
def projNewCard : Claim7 := { stood := { row := projNewRow, standIns := [], harness := (true, "7340051bb49181c7fa3bedc4d4ba674d193e56758b9ae73c70cd23c3af432481"), looks := true }, kinds := [], alts := [], laidByText := true, laidKinds := [.data, .data, .data], laidTests := true, laidLooks := .later }
def ProjNewCardSaid : Prop := Claim7.holds Tryd.pinned (.plain (OpenSpec.ofChange projNewSpec)) projNewCard

/-- THE TIED CARD OF 'sibyllaw22.ProjThere'. -/
def projThereCard : Claim7 := { stood := { row := projThereRow, standIns := [], harness := (true, "7340051bb49181c7fa3bedc4d4ba674d193e56758b9ae73c70cd23c3af432481"), looks := true }, kinds := [], alts := [], laidByText := true, laidKinds := [.data, .data, .data], laidTests := true, laidLooks := .later }
def ProjThereCardSaid : Prop := Claim7.holds Tryd.pinned (.plain (OpenSpec.ofChange projThereSpec)) projThereCard

/-- THE SECOND FORM's CARD OF 'sibyllaw22.ProjCloses'. -/
def projClosesUptoCard : Claim7 := { stood := { row := projClosesUptoRow, standIns := [], harness := (true, "7340051bb49181c7fa3bedc4d4ba674d193e56758b9ae73c70cd23c3af432481"), looks := true }, kinds := [], alts := [], laidByText := true, laidKinds := [.data, .data, .data], laidTests := true, laidLooks := .later }
def ProjClosesUptoCardSaid : Prop := Claim7.holds Tryd.pinned (.plain (OpenSpec.upto projClosesSpec)) projClosesUptoCard

/-- THE SECOND FORM's CARD OF 'sibyllaw22.ProjNew'. -/
def projNewUptoCard : Claim7 := { stood := { row := projNewUptoRow, standIns := [], harness := (true, "7340051bb49181c7fa3bedc4d4ba674d193e56758b9ae73c70cd23c3af432481"), looks := true }, kinds := [], alts := [], laidByText := true, laidKinds := [.data, .data, .data], laidTests := true, laidLooks := .later }
def ProjNewUptoCardSaid : Prop := Claim7.holds Tryd.pinned (.plain (OpenSpec.upto projNewSpec)) projNewUptoCard

/-- THE SECOND FORM's CARD OF 'sibyllaw22.ProjThere'. -/
def projThereUptoCard : Claim7 := { stood := { row := projThereUptoRow, standIns := [], harness := (true, "7340051bb49181c7fa3bedc4d4ba674d193e56758b9ae73c70cd23c3af432481"), looks := true }, kinds := [], alts := [], laidByText := true, laidKinds := [.data, .data, .data], laidTests := true, laidLooks := .later }
def ProjThereUptoCardSaid : Prop := Claim7.holds Tryd.pinned (.plain (OpenSpec.upto projThereSpec)) projThereUptoCard
end Rows
end Go.Proofs.YtiknomepbklibaaDoor
