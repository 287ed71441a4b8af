/-
  DERIVED. GIVEN WITH THE SEED: THE CARDS: each row of YtiknomepbklibaaGreatDoorRows.lean that lists a variable, with what it lists TIED to the program's text (the seventh form; the later family's looks); each row that meets fmt, with fmt's text TOLD by the authors' own Lean function (tested against real Go, not proved from fmt's source: count such statements apart). THE CARD IS WHAT COUNTS. Prove the row's statement (the work); the ties are given (YtiknomepbklibaaGreatDoorTie.lean); close each card by the builder's one call (the guide's Derived/Test/ToyasCard.lean, 'card_holds'). Laid BY PROGRAM, IN A SANDBOX (cutbox-door.mjs). By AI agents, Wed Nov 11 2026. No macro, syntax, notation, axiom, sorry.
-/
import Derived.Test.YtiknomepbklibaaGreatDoorRows
import GoSem.ClaimSeven
namespace Go.Proofs.YtiknomepbklibaaGreatDoor
namespace Rows

/-- THE TIED CARD OF 'sibyllaw22.ProjOr'. -/
def projOrCard : Claim7 := { stood := { row := projOrRow, standIns := [], harness := (true, "3055ab2f9961ef55e69c06ba4048c1b57d113e4724f9e60dfa21f30d9c097d5a"), looks := true }, kinds := [], alts := [], laidByText := true, laidKinds := [.data, .data, .data], laidTests := true, laidLooks := .later }
def ProjOrCardSaid : Prop := Claim7.holds Tryz.pinned (.plain (OpenSpec.ofChange projOrSpec)) projOrCard

/-- THE TIED CARD OF 'sibyllaw26.CompRules'. -/
def compRulesCard : Claim7 := { stood := { row := compRulesRow, standIns := [], harness := (true, "3055ab2f9961ef55e69c06ba4048c1b57d113e4724f9e60dfa21f30d9c097d5a"), looks := true }, kinds := [], alts := [], laidByText := true, laidKinds := [.data, .data, .data], laidTests := true, laidLooks := .later }
def CompRulesCardSaid : Prop := Claim7.holds Tryz.pinned (.plain (OpenSpec.ofChange compRulesSpec)) compRulesCard

/-- THE TIED CARD OF 'sibyllaw26.CompTruths'. -/
def compTruthsCard : Claim7 := { stood := { row := compTruthsRow, standIns := [], harness := (true, "3055ab2f9961ef55e69c06ba4048c1b57d113e4724f9e60dfa21f30d9c097d5a"), looks := true }, kinds := [], alts := [], laidByText := true, laidKinds := [.data, .data, .data], laidTests := true, laidLooks := .later }
def CompTruthsCardSaid : Prop := Claim7.holds Tryz.pinned (.plain (OpenSpec.ofChange compTruthsSpec)) compTruthsCard

/-- THE TIED CARD OF 'sibyllaw26.CompFuel'. -/
def compFuelCard : Claim7 := { stood := { row := compFuelRow, standIns := [], harness := (true, "3055ab2f9961ef55e69c06ba4048c1b57d113e4724f9e60dfa21f30d9c097d5a"), looks := true }, kinds := [], alts := [], laidByText := true, laidKinds := [.data, .data, .data], laidTests := true, laidLooks := .later }
def CompFuelCardSaid : Prop := Claim7.holds Tryz.pinned (.plain (OpenSpec.ofChange compFuelSpec)) compFuelCard

/-- THE TIED CARD OF 'sibyllaw26.CompHolds'. -/
def compHoldsCard : Claim7 := { stood := { row := compHoldsRow, standIns := [], harness := (true, "3055ab2f9961ef55e69c06ba4048c1b57d113e4724f9e60dfa21f30d9c097d5a"), looks := true }, kinds := [], alts := [], laidByText := true, laidKinds := [.data, .data, .data], laidTests := true, laidLooks := .later }
def CompHoldsCardSaid : Prop := Claim7.holds Tryz.pinned (.plain (OpenSpec.ofChange compHoldsSpec)) compHoldsCard

/-- THE TIED CARD OF 'sibyllaw26.CompEnds'. -/
def compEndsCard : Claim7 := { stood := { row := compEndsRow, standIns := [], harness := (true, "3055ab2f9961ef55e69c06ba4048c1b57d113e4724f9e60dfa21f30d9c097d5a"), looks := true }, kinds := [], alts := [], laidByText := true, laidKinds := [.data, .data, .data], laidTests := true, laidLooks := .later }
def CompEndsCardSaid : Prop := Claim7.holds Tryz.pinned (.plain (OpenSpec.ofChange compEndsSpec)) compEndsCard

/-- THE TIED CARD OF 'sibyllaw26.CompSome'. -/
def compSomeCard : Claim7 := { stood := { row := compSomeRow, standIns := [], harness := (true, "3055ab2f9961ef55e69c06ba4048c1b57d113e4724f9e60dfa21f30d9c097d5a"), looks := true }, kinds := [], alts := [], laidByText := true, laidKinds := [.data, .data, .data], laidTests := true, laidLooks := .later }
def CompSomeCardSaid : Prop := Claim7.holds Tryz.pinned (.plain (OpenSpec.ofChange compSomeSpec)) compSomeCard

/-- THE SECOND FORM's CARD OF 'sibyllaw22.ProjOr'. -/
def projOrUptoCard : Claim7 := { stood := { row := projOrUptoRow, standIns := [], harness := (true, "3055ab2f9961ef55e69c06ba4048c1b57d113e4724f9e60dfa21f30d9c097d5a"), looks := true }, kinds := [], alts := [], laidByText := true, laidKinds := [.data, .data, .data], laidTests := true, laidLooks := .later }
def ProjOrUptoCardSaid : Prop := Claim7.holds Tryz.pinned (.plain (OpenSpec.upto projOrSpec)) projOrUptoCard

/-- THE SECOND FORM's CARD OF 'sibyllaw26.CompRules'. -/
def compRulesUptoCard : Claim7 := { stood := { row := compRulesUptoRow, standIns := [], harness := (true, "3055ab2f9961ef55e69c06ba4048c1b57d113e4724f9e60dfa21f30d9c097d5a"), looks := true }, kinds := [], alts := [], laidByText := true, laidKinds := [.data, .data, .data], laidTests := true, laidLooks := .later }
def CompRulesUptoCardSaid : Prop := Claim7.holds Tryz.pinned (.plain (OpenSpec.upto compRulesSpec)) compRulesUptoCard

/-- THE SECOND FORM's CARD OF 'sibyllaw26.CompTruths'. -/
def compTruthsUptoCard : Claim7 := { stood := { row := compTruthsUptoRow, standIns := [], harness := (true, "3055ab2f9961ef55e69c06ba4048c1b57d113e4724f9e60dfa21f30d9c097d5a"), looks := true }, kinds := [], alts := [], laidByText := true, laidKinds := [.data, .data, .data], laidTests := true, laidLooks := .later }
def CompTruthsUptoCardSaid : Prop := Claim7.holds Tryz.pinned (.plain (OpenSpec.upto compTruthsSpec)) compTruthsUptoCard

/-- THE SECOND FORM's CARD OF 'sibyllaw26.CompFuel'. -/
def compFuelUptoCard : Claim7 := { stood := { row := compFuelUptoRow, standIns := [], harness := (true, "3055ab2f9961ef55e69c06ba4048c1b57d113e4724f9e60dfa21f30d9c097d5a"), looks := true }, kinds := [], alts := [], laidByText := true, laidKinds := [.data, .data, .data], laidTests := true, laidLooks := .later }
def CompFuelUptoCardSaid : Prop := Claim7.holds Tryz.pinned (.plain (OpenSpec.upto compFuelSpec)) compFuelUptoCard

/-- THE SECOND FORM's CARD OF 'sibyllaw26.CompHolds'. -/
def compHoldsUptoCard : Claim7 := { stood := { row := compHoldsUptoRow, standIns := [], harness := (true, "3055ab2f9961ef55e69c06ba4048c1b57d113e4724f9e60dfa21f30d9c097d5a"), looks := true }, kinds := [], alts := [], laidByText := true, laidKinds := [.data, .data, .data], laidTests := true, laidLooks := .later }
def CompHoldsUptoCardSaid : Prop := Claim7.holds Tryz.pinned (.plain (OpenSpec.upto compHoldsSpec)) compHoldsUptoCard

/-- THE SECOND FORM's CARD OF 'sibyllaw26.CompEnds'. -/
def compEndsUptoCard : Claim7 := { stood := { row := compEndsUptoRow, standIns := [], harness := (true, "3055ab2f9961ef55e69c06ba4048c1b57d113e4724f9e60dfa21f30d9c097d5a"), looks := true }, kinds := [], alts := [], laidByText := true, laidKinds := [.data, .data, .data], laidTests := true, laidLooks := .later }
def CompEndsUptoCardSaid : Prop := Claim7.holds Tryz.pinned (.plain (OpenSpec.upto compEndsSpec)) compEndsUptoCard

/-- THE SECOND FORM's CARD OF 'sibyllaw26.CompSome'. -/
def compSomeUptoCard : Claim7 := { stood := { row := compSomeUptoRow, standIns := [], harness := (true, "3055ab2f9961ef55e69c06ba4048c1b57d113e4724f9e60dfa21f30d9c097d5a"), looks := true }, kinds := [], alts := [], laidByText := true, laidKinds := [.data, .data, .data], laidTests := true, laidLooks := .later }
def CompSomeUptoCardSaid : Prop := Claim7.holds Tryz.pinned (.plain (OpenSpec.upto compSomeSpec)) compSomeUptoCard
end Rows
end Go.Proofs.YtiknomepbklibaaGreatDoor
