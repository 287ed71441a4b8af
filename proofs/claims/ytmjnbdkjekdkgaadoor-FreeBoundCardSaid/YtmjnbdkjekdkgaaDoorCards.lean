/-
  DERIVED. GIVEN WITH THE SEED: THE CARDS: each row of YtmjnbdkjekdkgaaDoorRows.lean that lists a variable, with what it lists TIED to the program's text (the seventh form; the later family's looks); each row that meets fmt, with fmt's text TOLD by the authors' own Lean function (tested against real Go, not proved from fmt's source: count such statements apart). THE CARD IS WHAT COUNTS. Prove the row's statement (the work); the ties are given (YtmjnbdkjekdkgaaDoorTie.lean); close each card by the builder's one call (the guide's Derived/Test/ToyasCard.lean, 'card_holds'). Laid BY PROGRAM, IN A SANDBOX (cutbox-door.mjs). By AI agents, Wed Nov 11 2026. No macro, syntax, notation, axiom, sorry.
-/
import Derived.Test.YtmjnbdkjekdkgaaDoorRows
import GoSem.ClaimSeven
namespace Go.Proofs.YtmjnbdkjekdkgaaDoor
namespace Rows

/-- THE TIED CARD OF 'sibyllaw3.TreeIs'. -/
def treeIsCard : Claim7 := { stood := { row := treeIsRow, standIns := [], harness := (true, "4dee3f0a2b35c24f6e9fbbdcd8e595e75fc4eb541558ac03a696368c10ad0551"), looks := false }, kinds := [], alts := [], laidByText := true, laidKinds := [.data, .pinned], laidTests := true, laidLooks := .later }
def TreeIsCardSaid : Prop := Claim7.holds Tryd.pinned (.plain (OpenSpec.ofChange treeIsSpec)) treeIsCard

/-- THE TIED CARD OF 'sibyllaw3.TreeProgs'. -/
def treeProgsCard : Claim7 := { stood := { row := treeProgsRow, standIns := [], harness := (true, "4dee3f0a2b35c24f6e9fbbdcd8e595e75fc4eb541558ac03a696368c10ad0551"), looks := false }, kinds := [], alts := [], laidByText := true, laidKinds := [.data, .pinned], laidTests := true, laidLooks := .later }
def TreeProgsCardSaid : Prop := Claim7.holds Tryd.pinned (.plain (OpenSpec.ofChange treeProgsSpec)) treeProgsCard

/-- THE TIED CARD OF 'sibyllaw7.FreeNames'. -/
def freeNamesCard : Claim7 := { stood := { row := freeNamesRow, standIns := [], harness := (true, "4dee3f0a2b35c24f6e9fbbdcd8e595e75fc4eb541558ac03a696368c10ad0551"), looks := false }, kinds := [], alts := [], laidByText := true, laidKinds := [.data, .pinned], laidTests := true, laidLooks := .later }
def FreeNamesCardSaid : Prop := Claim7.holds Tryd.pinned (.plain (OpenSpec.ofChange freeNamesSpec)) freeNamesCard

/-- THE TIED CARD OF 'sibyllaw7.FreeLeaves'. -/
def freeLeavesCard : Claim7 := { stood := { row := freeLeavesRow, standIns := [], harness := (true, "4dee3f0a2b35c24f6e9fbbdcd8e595e75fc4eb541558ac03a696368c10ad0551"), looks := false }, kinds := [], alts := [], laidByText := true, laidKinds := [.data, .pinned], laidTests := true, laidLooks := .later }
def FreeLeavesCardSaid : Prop := Claim7.holds Tryd.pinned (.plain (OpenSpec.ofChange freeLeavesSpec)) freeLeavesCard

/-- THE TIED CARD OF 'sibyllaw7.FreeSelf'. -/
def freeSelfCard : Claim7 := { stood := { row := freeSelfRow, standIns := [], harness := (true, "4dee3f0a2b35c24f6e9fbbdcd8e595e75fc4eb541558ac03a696368c10ad0551"), looks := false }, kinds := [], alts := [], laidByText := true, laidKinds := [.data, .pinned], laidTests := true, laidLooks := .later }
def FreeSelfCardSaid : Prop := Claim7.holds Tryd.pinned (.plain (OpenSpec.ofChange freeSelfSpec)) freeSelfCard

/-- THE TIED CARD OF 'sibyllaw7.FreeJoin'. -/
def freeJoinCard : Claim7 := { stood := { row := freeJoinRow, standIns := [], harness := (true, "4dee3f0a2b35c24f6e9fbbdcd8e595e75fc4eb541558ac03a696368c10ad0551"), looks := false }, kinds := [], alts := [], laidByText := true, laidKinds := [.data, .pinned], laidTests := true, laidLooks := .later }
def FreeJoinCardSaid : Prop := Claim7.holds Tryd.pinned (.plain (OpenSpec.ofChange freeJoinSpec)) freeJoinCard

/-- THE TIED CARD OF 'sibyllaw7.FreeBound'. -/
def freeBoundCard : Claim7 := { stood := { row := freeBoundRow, standIns := [], harness := (true, "4dee3f0a2b35c24f6e9fbbdcd8e595e75fc4eb541558ac03a696368c10ad0551"), looks := false }, kinds := [], alts := [], laidByText := true, laidKinds := [.data, .pinned], laidTests := true, laidLooks := .later }
def FreeBoundCardSaid : Prop := Claim7.holds Tryd.pinned (.plain (OpenSpec.ofChange freeBoundSpec)) freeBoundCard

/-- THE SECOND FORM's CARD OF 'sibyllaw3.TreeIs'. -/
def treeIsUptoCard : Claim7 := { stood := { row := treeIsUptoRow, standIns := [], harness := (true, "4dee3f0a2b35c24f6e9fbbdcd8e595e75fc4eb541558ac03a696368c10ad0551"), looks := false }, kinds := [], alts := [], laidByText := true, laidKinds := [.data, .pinned], laidTests := true, laidLooks := .later }
def TreeIsUptoCardSaid : Prop := Claim7.holds Tryd.pinned (.plain (OpenSpec.upto treeIsSpec)) treeIsUptoCard

/-- THE SECOND FORM's CARD OF 'sibyllaw3.TreeProgs'. -/
def treeProgsUptoCard : Claim7 := { stood := { row := treeProgsUptoRow, standIns := [], harness := (true, "4dee3f0a2b35c24f6e9fbbdcd8e595e75fc4eb541558ac03a696368c10ad0551"), looks := false }, kinds := [], alts := [], laidByText := true, laidKinds := [.data, .pinned], laidTests := true, laidLooks := .later }
def TreeProgsUptoCardSaid : Prop := Claim7.holds Tryd.pinned (.plain (OpenSpec.upto treeProgsSpec)) treeProgsUptoCard

/-- THE SECOND FORM's CARD OF 'sibyllaw7.FreeNames'. -/
def freeNamesUptoCard : Claim7 := { stood := { row := freeNamesUptoRow, standIns := [], harness := (true, "4dee3f0a2b35c24f6e9fbbdcd8e595e75fc4eb541558ac03a696368c10ad0551"), looks := false }, kinds := [], alts := [], laidByText := true, laidKinds := [.data, .pinned], laidTests := true, laidLooks := .later }
def FreeNamesUptoCardSaid : Prop := Claim7.holds Tryd.pinned (.plain (OpenSpec.upto freeNamesSpec)) freeNamesUptoCard

/-- THE SECOND FORM's CARD OF 'sibyllaw7.FreeLeaves'. -/
def freeLeavesUptoCard : Claim7 := { stood := { row := freeLeavesUptoRow, standIns := [], harness := (true, "4dee3f0a2b35c24f6e9fbbdcd8e595e75fc4eb541558ac03a696368c10ad0551"), looks := false }, kinds := [], alts := [], laidByText := true, laidKinds := [.data, .pinned], laidTests := true, laidLooks := .later }
def FreeLeavesUptoCardSaid : Prop := Claim7.holds Tryd.pinned (.plain (OpenSpec.upto freeLeavesSpec)) freeLeavesUptoCard

/-- THE SECOND FORM's CARD OF 'sibyllaw7.FreeSelf'. -/
def freeSelfUptoCard : Claim7 := { stood := { row := freeSelfUptoRow, standIns := [], harness := (true, "4dee3f0a2b35c24f6e9fbbdcd8e595e75fc4eb541558ac03a696368c10ad0551"), looks := false }, kinds := [], alts := [], laidByText := true, laidKinds := [.data, .pinned], laidTests := true, laidLooks := .later }
def FreeSelfUptoCardSaid : Prop := Claim7.holds Tryd.pinned (.plain (OpenSpec.upto freeSelfSpec)) freeSelfUptoCard

/-- THE SECOND FORM's CARD OF 'sibyllaw7.FreeJoin'. -/
def freeJoinUptoCard : Claim7 := { stood := { row := freeJoinUptoRow, standIns := [], harness := (true, "4dee3f0a2b35c24f6e9fbbdcd8e595e75fc4eb541558ac03a696368c10ad0551"), looks := false }, kinds := [], alts := [], laidByText := true, laidKinds := [.data, .pinned], laidTests := true, laidLooks := .later }
def FreeJoinUptoCardSaid : Prop := Claim7.holds Tryd.pinned (.plain (OpenSpec.upto freeJoinSpec)) freeJoinUptoCard

/-- THE SECOND FORM's CARD OF 'sibyllaw7.FreeBound'. -/
def freeBoundUptoCard : Claim7 := { stood := { row := freeBoundUptoRow, standIns := [], harness := (true, "4dee3f0a2b35c24f6e9fbbdcd8e595e75fc4eb541558ac03a696368c10ad0551"), looks := false }, kinds := [], alts := [], laidByText := true, laidKinds := [.data, .pinned], laidTests := true, laidLooks := .later }
def FreeBoundUptoCardSaid : Prop := Claim7.holds Tryd.pinned (.plain (OpenSpec.upto freeBoundSpec)) freeBoundUptoCard
end Rows
end Go.Proofs.YtmjnbdkjekdkgaaDoor
