/-
  DERIVED. GIVEN WITH THE SEED: THE CARDS: each row of YtjjadifjcodjpaaDoorRows.lean that lists a variable, with what it lists TIED to the program's text (the seventh form; the later family's looks); each row that meets fmt, with fmt's text TOLD by the authors' own Lean function (tested against real Go, not proved from fmt's source: count such statements apart). THE CARD IS WHAT COUNTS. Prove the row's statement (the work); the ties are given (YtjjadifjcodjpaaDoorTie.lean); close each card by the builder's one call (the guide's Derived/Test/ToyasCard.lean, 'card_holds'). Laid BY PROGRAM, IN A SANDBOX (cutbox-door.mjs). By AI agents, Wed Nov 11 2026. No macro, syntax, notation, axiom, sorry.
-/
import Derived.Test.YtjjadifjcodjpaaDoorRows
import GoSem.ClaimSeven
namespace Go.Proofs.YtjjadifjcodjpaaDoor
namespace Rows

/-- THE TIED CARD OF 'sibyllaw15.PoolSame'. -/
def poolSameCard : Claim7 := { stood := { row := poolSameRow, standIns := [], harness := (true, "7bb20b70237d65f4f05578add0115ed5ffd126f2db44ac615dae363a3a7a988c"), looks := false }, kinds := [], alts := [], laidByText := true, laidKinds := [.data, .data, .data], laidTests := true, laidLooks := .later }
def PoolSameCardSaid : Prop := Claim7.holds Tryd.pinned (.plain (OpenSpec.ofChange poolSameSpec)) poolSameCard

/-- THE TIED CARD OF 'sibyllaw15.PoolPlays'. -/
def poolPlaysCard : Claim7 := { stood := { row := poolPlaysRow, standIns := [], harness := (true, "7bb20b70237d65f4f05578add0115ed5ffd126f2db44ac615dae363a3a7a988c"), looks := false }, kinds := [], alts := [], laidByText := true, laidKinds := [.data, .data, .data], laidTests := true, laidLooks := .later }
def PoolPlaysCardSaid : Prop := Claim7.holds Tryd.pinned (.plain (OpenSpec.ofChange poolPlaysSpec)) poolPlaysCard

/-- THE TIED CARD OF 'sibyllaw15.PoolOwn'. -/
def poolOwnCard : Claim7 := { stood := { row := poolOwnRow, standIns := [], harness := (true, "7bb20b70237d65f4f05578add0115ed5ffd126f2db44ac615dae363a3a7a988c"), looks := false }, kinds := [], alts := [], laidByText := true, laidKinds := [.data, .data, .data], laidTests := true, laidLooks := .later }
def PoolOwnCardSaid : Prop := Claim7.holds Tryd.pinned (.plain (OpenSpec.ofChange poolOwnSpec)) poolOwnCard

/-- THE TIED CARD OF 'sibyllaw15.PoolOfNothing'. -/
def poolOfNothingCard : Claim7 := { stood := { row := poolOfNothingRow, standIns := [], harness := (true, "7bb20b70237d65f4f05578add0115ed5ffd126f2db44ac615dae363a3a7a988c"), looks := false }, kinds := [], alts := [], laidByText := true, laidKinds := [.data, .data, .data], laidTests := true, laidLooks := .later }
def PoolOfNothingCardSaid : Prop := Claim7.holds Tryd.pinned (.plain (OpenSpec.ofChange poolOfNothingSpec)) poolOfNothingCard

/-- THE SECOND FORM's CARD OF 'sibyllaw15.PoolSame'. -/
def poolSameUptoCard : Claim7 := { stood := { row := poolSameUptoRow, standIns := [], harness := (true, "7bb20b70237d65f4f05578add0115ed5ffd126f2db44ac615dae363a3a7a988c"), looks := false }, kinds := [], alts := [], laidByText := true, laidKinds := [.data, .data, .data], laidTests := true, laidLooks := .later }
def PoolSameUptoCardSaid : Prop := Claim7.holds Tryd.pinned (.plain (OpenSpec.upto poolSameSpec)) poolSameUptoCard

/-- THE SECOND FORM's CARD OF 'sibyllaw15.PoolPlays'. -/
def poolPlaysUptoCard : Claim7 := { stood := { row := poolPlaysUptoRow, standIns := [], harness := (true, "7bb20b70237d65f4f05578add0115ed5ffd126f2db44ac615dae363a3a7a988c"), looks := false }, kinds := [], alts := [], laidByText := true, laidKinds := [.data, .data, .data], laidTests := true, laidLooks := .later }
def PoolPlaysUptoCardSaid : Prop := Claim7.holds Tryd.pinned (.plain (OpenSpec.upto poolPlaysSpec)) poolPlaysUptoCard

/-- THE SECOND FORM's CARD OF 'sibyllaw15.PoolOwn'. -/
def poolOwnUptoCard : Claim7 := { stood := { row := poolOwnUptoRow, standIns := [], harness := (true, "7bb20b70237d65f4f05578add0115ed5ffd126f2db44ac615dae363a3a7a988c"), looks := false }, kinds := [], alts := [], laidByText := true, laidKinds := [.data, .data, .data], laidTests := true, laidLooks := .later }
def PoolOwnUptoCardSaid : Prop := Claim7.holds Tryd.pinned (.plain (OpenSpec.upto poolOwnSpec)) poolOwnUptoCard

/-- THE SECOND FORM's CARD OF 'sibyllaw15.PoolOfNothing'. -/
def poolOfNothingUptoCard : Claim7 := { stood := { row := poolOfNothingUptoRow, standIns := [], harness := (true, "7bb20b70237d65f4f05578add0115ed5ffd126f2db44ac615dae363a3a7a988c"), looks := false }, kinds := [], alts := [], laidByText := true, laidKinds := [.data, .data, .data], laidTests := true, laidLooks := .later }
def PoolOfNothingUptoCardSaid : Prop := Claim7.holds Tryd.pinned (.plain (OpenSpec.upto poolOfNothingSpec)) poolOfNothingUptoCard
end Rows
end Go.Proofs.YtjjadifjcodjpaaDoor
