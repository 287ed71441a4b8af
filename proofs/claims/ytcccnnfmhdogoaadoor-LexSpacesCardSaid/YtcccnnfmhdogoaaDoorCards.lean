/-
  DERIVED. GIVEN WITH THE SEED: THE CARDS: each row of YtcccnnfmhdogoaaDoorRows.lean that lists a variable, with what it lists TIED to the program's text (the seventh form; the later family's looks); each row that meets fmt, with fmt's text TOLD by the authors' own Lean function (tested against real Go, not proved from fmt's source: count such statements apart). THE CARD IS WHAT COUNTS. Prove the row's statement (the work); the ties are given (YtcccnnfmhdogoaaDoorTie.lean); close each card by the builder's one call (the guide's Derived/Test/ToyasCard.lean, 'card_holds'). Laid BY PROGRAM, IN A SANDBOX (cutbox-door.mjs). By AI agents, Wed Nov 11 2026. No macro, syntax, notation, axiom, sorry.
-/
import Derived.Test.YtcccnnfmhdogoaaDoorRows
import GoSem.ClaimSeven
namespace Go.Proofs.YtcccnnfmhdogoaaDoor
namespace Rows

/-- THE TIED CARD OF 'sibyllaw1.RunesEach'. -/
def runesEachCard : Claim7 := { stood := { row := runesEachRow, standIns := [], harness := (true, "24a67dc97b0b238581bf7ac674cd985a06ed3e77b86946fc4c5be0c04666aae7"), looks := false }, kinds := [], alts := [], laidByText := true, laidKinds := [.data, .pinned], laidTests := true, laidLooks := .later }
def RunesEachCardSaid : Prop := Claim7.holds Tryd.pinned (.plain (OpenSpec.ofChange runesEachSpec)) runesEachCard

/-- THE TIED CARD OF 'sibyllaw1.RunesCut'. -/
def runesCutCard : Claim7 := { stood := { row := runesCutRow, standIns := [], harness := (true, "24a67dc97b0b238581bf7ac674cd985a06ed3e77b86946fc4c5be0c04666aae7"), looks := false }, kinds := [], alts := [], laidByText := true, laidKinds := [.data, .pinned], laidTests := true, laidLooks := .later }
def RunesCutCardSaid : Prop := Claim7.holds Tryd.pinned (.plain (OpenSpec.ofChange runesCutSpec)) runesCutCard

/-- THE TIED CARD OF 'sibyllaw2.LexTokens'. -/
def lexTokensCard : Claim7 := { stood := { row := lexTokensRow, standIns := [], harness := (true, "24a67dc97b0b238581bf7ac674cd985a06ed3e77b86946fc4c5be0c04666aae7"), looks := false }, kinds := [], alts := [], laidByText := true, laidKinds := [.data, .pinned], laidTests := true, laidLooks := .later }
def LexTokensCardSaid : Prop := Claim7.holds Tryd.pinned (.plain (OpenSpec.ofChange lexTokensSpec)) lexTokensCard

/-- THE TIED CARD OF 'sibyllaw2.LexSpaces'. -/
def lexSpacesCard : Claim7 := { stood := { row := lexSpacesRow, standIns := [], harness := (true, "24a67dc97b0b238581bf7ac674cd985a06ed3e77b86946fc4c5be0c04666aae7"), looks := false }, kinds := [], alts := [], laidByText := true, laidKinds := [.data, .pinned], laidTests := true, laidLooks := .later }
def LexSpacesCardSaid : Prop := Claim7.holds Tryd.pinned (.plain (OpenSpec.ofChange lexSpacesSpec)) lexSpacesCard

/-- THE TIED CARD OF 'sibyllaw2.LexSigns'. -/
def lexSignsCard : Claim7 := { stood := { row := lexSignsRow, standIns := [], harness := (true, "24a67dc97b0b238581bf7ac674cd985a06ed3e77b86946fc4c5be0c04666aae7"), looks := false }, kinds := [], alts := [], laidByText := true, laidKinds := [.data, .pinned], laidTests := true, laidLooks := .later }
def LexSignsCardSaid : Prop := Claim7.holds Tryd.pinned (.plain (OpenSpec.ofChange lexSignsSpec)) lexSignsCard

/-- THE SECOND FORM's CARD OF 'sibyllaw1.RunesEach'. -/
def runesEachUptoCard : Claim7 := { stood := { row := runesEachUptoRow, standIns := [], harness := (true, "24a67dc97b0b238581bf7ac674cd985a06ed3e77b86946fc4c5be0c04666aae7"), looks := false }, kinds := [], alts := [], laidByText := true, laidKinds := [.data, .pinned], laidTests := true, laidLooks := .later }
def RunesEachUptoCardSaid : Prop := Claim7.holds Tryd.pinned (.plain (OpenSpec.upto runesEachSpec)) runesEachUptoCard

/-- THE SECOND FORM's CARD OF 'sibyllaw1.RunesCut'. -/
def runesCutUptoCard : Claim7 := { stood := { row := runesCutUptoRow, standIns := [], harness := (true, "24a67dc97b0b238581bf7ac674cd985a06ed3e77b86946fc4c5be0c04666aae7"), looks := false }, kinds := [], alts := [], laidByText := true, laidKinds := [.data, .pinned], laidTests := true, laidLooks := .later }
def RunesCutUptoCardSaid : Prop := Claim7.holds Tryd.pinned (.plain (OpenSpec.upto runesCutSpec)) runesCutUptoCard

/-- THE SECOND FORM's CARD OF 'sibyllaw2.LexTokens'. -/
def lexTokensUptoCard : Claim7 := { stood := { row := lexTokensUptoRow, standIns := [], harness := (true, "24a67dc97b0b238581bf7ac674cd985a06ed3e77b86946fc4c5be0c04666aae7"), looks := false }, kinds := [], alts := [], laidByText := true, laidKinds := [.data, .pinned], laidTests := true, laidLooks := .later }
def LexTokensUptoCardSaid : Prop := Claim7.holds Tryd.pinned (.plain (OpenSpec.upto lexTokensSpec)) lexTokensUptoCard

/-- THE SECOND FORM's CARD OF 'sibyllaw2.LexSpaces'. -/
def lexSpacesUptoCard : Claim7 := { stood := { row := lexSpacesUptoRow, standIns := [], harness := (true, "24a67dc97b0b238581bf7ac674cd985a06ed3e77b86946fc4c5be0c04666aae7"), looks := false }, kinds := [], alts := [], laidByText := true, laidKinds := [.data, .pinned], laidTests := true, laidLooks := .later }
def LexSpacesUptoCardSaid : Prop := Claim7.holds Tryd.pinned (.plain (OpenSpec.upto lexSpacesSpec)) lexSpacesUptoCard

/-- THE SECOND FORM's CARD OF 'sibyllaw2.LexSigns'. -/
def lexSignsUptoCard : Claim7 := { stood := { row := lexSignsUptoRow, standIns := [], harness := (true, "24a67dc97b0b238581bf7ac674cd985a06ed3e77b86946fc4c5be0c04666aae7"), looks := false }, kinds := [], alts := [], laidByText := true, laidKinds := [.data, .pinned], laidTests := true, laidLooks := .later }
def LexSignsUptoCardSaid : Prop := Claim7.holds Tryd.pinned (.plain (OpenSpec.upto lexSignsSpec)) lexSignsUptoCard
end Rows
end Go.Proofs.YtcccnnfmhdogoaaDoor
