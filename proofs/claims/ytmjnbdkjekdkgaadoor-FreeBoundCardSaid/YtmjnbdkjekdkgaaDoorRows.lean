/-
  NARROWER THAN 'FOR EVERY INPUT', by the rows' own cells (each row's printed sentence says how): TreeIs: loops, laid · TreeProgs: loops, laid · FreeNames: loops, laid · FreeLeaves: loops, laid · FreeSelf: loops, laid · FreeJoin: laid · FreeBound: loops, laid.
  DERIVED. THE GIVEN ROWS OF THIS SEAT. 7 by the template 'for every input the law returns true; each argument reads behind the call as it read before'; 0 by the template 'total and deterministic' (their statements: YtmjnbdkjekdkgaaDoorTotals.lean).
  GIVEN WITH THE SEED: the statements are not yours to turn. If you find one false, say at which input.
  Laid BY PROGRAM, IN A SANDBOX (cutbox-rows.mjs): the forced cells as the released guide's own fill.sh prints them over the translation f3fb8d6e5db268b9… (all of the seat's roots in one cut). By AI agents, Wed Nov 11 2026. No macro, syntax, notation, axiom, sorry.
-/
import Derived.Test.YtmjnbdkjekdkgaaDoorChecked
import GoSem.PinnedTables
import GoSem.Claim
import GoSem.ClaimJoined
import GoSem.ClaimMapViews
import Derived.JoinedTies
import Derived.KernelRfl
namespace Go.Proofs.YtmjnbdkjekdkgaaDoor
/- THE CELL 'sum', in the pinned program and in every row, IS THE sha256 OF THE DUMP (.gsa) THAT YtmjnbdkjekdkgaaDoorProg.lean LOADS. Nothing in Lean hashes anything: it is a label: what it is worth is what the hold of that sum in a sandbox is worth. -/
noncomputable def Tryd.pinned : Pinned := { name := "ytmjnbdkjekdkgaadoor", sum := "f3fb8d6e5db268b9c8a5b8cf86d19152559a1c50fe310fc50aff44f652c31b55", checked := Tryd.checked }
namespace Rows
def none {H : Type} : Left H := { results := [], args := [] }

/- WHAT THE LISTED PACKAGE-LEVEL VARIABLES READ AS WHEN THE CALL BEGINS. Each datum BY PROGRAM (the guide's laid-datum.mjs) off the statement by which the dump's own 'gosem.cut.vars' lays the variable. In a bare row this is a premise. The card (YtmjnbdkjekdkgaaDoorCards.lean) ties it to the program's text. -/
def laid_unicode_utf8_acceptRanges {H : Type} : DataW H := .agg [.agg [.lit (.int .u8 128), .lit (.int .u8 191)], .agg [.lit (.int .u8 160), .lit (.int .u8 191)], .agg [.lit (.int .u8 128), .lit (.int .u8 159)], .agg [.lit (.int .u8 144), .lit (.int .u8 191)], .agg [.lit (.int .u8 128), .lit (.int .u8 143)], .agg [.lit (.int .u8 0), .lit (.int .u8 0)], .agg [.lit (.int .u8 0), .lit (.int .u8 0)], .agg [.lit (.int .u8 0), .lit (.int .u8 0)], .agg [.lit (.int .u8 0), .lit (.int .u8 0)], .agg [.lit (.int .u8 0), .lit (.int .u8 0)], .agg [.lit (.int .u8 0), .lit (.int .u8 0)], .agg [.lit (.int .u8 0), .lit (.int .u8 0)], .agg [.lit (.int .u8 0), .lit (.int .u8 0)], .agg [.lit (.int .u8 0), .lit (.int .u8 0)], .agg [.lit (.int .u8 0), .lit (.int .u8 0)], .agg [.lit (.int .u8 0), .lit (.int .u8 0)]]
/-- One of Go's own tables, pinned by name: the form's constant. -/
def laid_unicode_utf8_first : DataW Unit := Go.Pinned.utf8First

/-- 'sibyllaw3.TreeIs': WHATEVER THE INPUT: true; the input reads as it did. -/
def treeIsSpec : ChangeSpec := { name := "treeIs", fn := fun _ => fun
  | [d] => { results := [.lit (.bool true)], args := [d] }
  | _ => none }
def treeIsRow : OpenClaim := { program := "ytmjnbdkjekdkgaadoor", sum := "f3fb8d6e5db268b9c8a5b8cf86d19152559a1c50fe310fc50aff44f652c31b55", func := "sibyl/sibyllaw3.TreeIs", spec := "treeIs", unfollowed := true, recurses := true, named := ["unicode/utf8.first", "unicode/utf8.acceptRanges"], loops := true, apart := false, laid := [("unicode/utf8.acceptRanges", laid_unicode_utf8_acceptRanges), ("unicode/utf8.first", laid_unicode_utf8_first)] }
def TreeIsSaid : Prop := treeIsRow.holds Tryd.pinned (OpenSpec.ofChange treeIsSpec)

/-- ITS FALSE NEIGHBOUR: 'it returns false'. Refute it at one input. -/
def treeIsWrong : ChangeSpec := { name := "treeIs", fn := fun _ => fun
  | [d] => { results := [.lit (.bool false)], args := [d] }
  | _ => none }
def TreeIsWrongFalsely : Prop := treeIsRow.holds Tryd.pinned (OpenSpec.ofChange treeIsWrong)

/-- 'sibyllaw3.TreeProgs': WHATEVER THE INPUT: true; the input reads as it did. -/
def treeProgsSpec : ChangeSpec := { name := "treeProgs", fn := fun _ => fun
  | [d] => { results := [.lit (.bool true)], args := [d] }
  | _ => none }
def treeProgsRow : OpenClaim := { program := "ytmjnbdkjekdkgaadoor", sum := "f3fb8d6e5db268b9c8a5b8cf86d19152559a1c50fe310fc50aff44f652c31b55", func := "sibyl/sibyllaw3.TreeProgs", spec := "treeProgs", unfollowed := true, recurses := true, named := ["unicode/utf8.first", "unicode/utf8.acceptRanges"], loops := true, apart := false, laid := [("unicode/utf8.acceptRanges", laid_unicode_utf8_acceptRanges), ("unicode/utf8.first", laid_unicode_utf8_first)] }
def TreeProgsSaid : Prop := treeProgsRow.holds Tryd.pinned (OpenSpec.ofChange treeProgsSpec)

/-- ITS FALSE NEIGHBOUR: 'it returns false'. Refute it at one input. -/
def treeProgsWrong : ChangeSpec := { name := "treeProgs", fn := fun _ => fun
  | [d] => { results := [.lit (.bool false)], args := [d] }
  | _ => none }
def TreeProgsWrongFalsely : Prop := treeProgsRow.holds Tryd.pinned (OpenSpec.ofChange treeProgsWrong)

/-- 'sibyllaw7.FreeNames': WHATEVER THE INPUT: true; the input reads as it did. -/
def freeNamesSpec : ChangeSpec := { name := "freeNames", fn := fun _ => fun
  | [d] => { results := [.lit (.bool true)], args := [d] }
  | _ => none }
def freeNamesRow : OpenClaim := { program := "ytmjnbdkjekdkgaadoor", sum := "f3fb8d6e5db268b9c8a5b8cf86d19152559a1c50fe310fc50aff44f652c31b55", func := "sibyl/sibyllaw7.FreeNames", spec := "freeNames", recurses := true, named := ["unicode/utf8.first", "unicode/utf8.acceptRanges"], loops := true, apart := false, laid := [("unicode/utf8.acceptRanges", laid_unicode_utf8_acceptRanges), ("unicode/utf8.first", laid_unicode_utf8_first)] }
def FreeNamesSaid : Prop := freeNamesRow.holds Tryd.pinned (OpenSpec.ofChange freeNamesSpec)

/-- ITS FALSE NEIGHBOUR: 'it returns false'. Refute it at one input. -/
def freeNamesWrong : ChangeSpec := { name := "freeNames", fn := fun _ => fun
  | [d] => { results := [.lit (.bool false)], args := [d] }
  | _ => none }
def FreeNamesWrongFalsely : Prop := freeNamesRow.holds Tryd.pinned (OpenSpec.ofChange freeNamesWrong)

/-- 'sibyllaw7.FreeLeaves': WHATEVER THE INPUT: true; the input reads as it did. -/
def freeLeavesSpec : ChangeSpec := { name := "freeLeaves", fn := fun _ => fun
  | [d1, d2, d3] => { results := [.lit (.bool true)], args := [d1, d2, d3] }
  | _ => none }
def freeLeavesRow : OpenClaim := { program := "ytmjnbdkjekdkgaadoor", sum := "f3fb8d6e5db268b9c8a5b8cf86d19152559a1c50fe310fc50aff44f652c31b55", func := "sibyl/sibyllaw7.FreeLeaves", spec := "freeLeaves", recurses := true, named := ["unicode/utf8.first", "unicode/utf8.acceptRanges"], loops := true, apart := false, laid := [("unicode/utf8.acceptRanges", laid_unicode_utf8_acceptRanges), ("unicode/utf8.first", laid_unicode_utf8_first)] }
def FreeLeavesSaid : Prop := freeLeavesRow.holds Tryd.pinned (OpenSpec.ofChange freeLeavesSpec)

/-- ITS FALSE NEIGHBOUR: 'it returns false'. Refute it at one input. -/
def freeLeavesWrong : ChangeSpec := { name := "freeLeaves", fn := fun _ => fun
  | [d1, d2, d3] => { results := [.lit (.bool false)], args := [d1, d2, d3] }
  | _ => none }
def FreeLeavesWrongFalsely : Prop := freeLeavesRow.holds Tryd.pinned (OpenSpec.ofChange freeLeavesWrong)

/-- 'sibyllaw7.FreeSelf': WHATEVER THE INPUT: true; the input reads as it did. -/
def freeSelfSpec : ChangeSpec := { name := "freeSelf", fn := fun _ => fun
  | [d1, d2] => { results := [.lit (.bool true)], args := [d1, d2] }
  | _ => none }
def freeSelfRow : OpenClaim := { program := "ytmjnbdkjekdkgaadoor", sum := "f3fb8d6e5db268b9c8a5b8cf86d19152559a1c50fe310fc50aff44f652c31b55", func := "sibyl/sibyllaw7.FreeSelf", spec := "freeSelf", recurses := true, named := ["unicode/utf8.first", "unicode/utf8.acceptRanges"], loops := true, apart := false, laid := [("unicode/utf8.acceptRanges", laid_unicode_utf8_acceptRanges), ("unicode/utf8.first", laid_unicode_utf8_first)] }
def FreeSelfSaid : Prop := freeSelfRow.holds Tryd.pinned (OpenSpec.ofChange freeSelfSpec)

/-- ITS FALSE NEIGHBOUR: 'it returns false'. Refute it at one input. -/
def freeSelfWrong : ChangeSpec := { name := "freeSelf", fn := fun _ => fun
  | [d1, d2] => { results := [.lit (.bool false)], args := [d1, d2] }
  | _ => none }
def FreeSelfWrongFalsely : Prop := freeSelfRow.holds Tryd.pinned (OpenSpec.ofChange freeSelfWrong)

/-- 'sibyllaw7.FreeJoin': WHATEVER THE INPUT: true; the input reads as it did. -/
def freeJoinSpec : ChangeSpec := { name := "freeJoin", fn := fun _ => fun
  | [d1, d2] => { results := [.lit (.bool true)], args := [d1, d2] }
  | _ => none }
def freeJoinRow : OpenClaim := { program := "ytmjnbdkjekdkgaadoor", sum := "f3fb8d6e5db268b9c8a5b8cf86d19152559a1c50fe310fc50aff44f652c31b55", func := "sibyl/sibyllaw7.FreeJoin", spec := "freeJoin", recurses := true, named := ["unicode/utf8.first", "unicode/utf8.acceptRanges"], apart := false, laid := [("unicode/utf8.acceptRanges", laid_unicode_utf8_acceptRanges), ("unicode/utf8.first", laid_unicode_utf8_first)] }
def FreeJoinSaid : Prop := freeJoinRow.holds Tryd.pinned (OpenSpec.ofChange freeJoinSpec)

/-- ITS FALSE NEIGHBOUR: 'it returns false'. Refute it at one input. -/
def freeJoinWrong : ChangeSpec := { name := "freeJoin", fn := fun _ => fun
  | [d1, d2] => { results := [.lit (.bool false)], args := [d1, d2] }
  | _ => none }
def FreeJoinWrongFalsely : Prop := freeJoinRow.holds Tryd.pinned (OpenSpec.ofChange freeJoinWrong)

/-- 'sibyllaw7.FreeBound': WHATEVER THE INPUT: true; the input reads as it did. -/
def freeBoundSpec : ChangeSpec := { name := "freeBound", fn := fun _ => fun
  | [d1, d2, d3, d4] => { results := [.lit (.bool true)], args := [d1, d2, d3, d4] }
  | _ => none }
def freeBoundRow : OpenClaim := { program := "ytmjnbdkjekdkgaadoor", sum := "f3fb8d6e5db268b9c8a5b8cf86d19152559a1c50fe310fc50aff44f652c31b55", func := "sibyl/sibyllaw7.FreeBound", spec := "freeBound", recurses := true, named := ["unicode/utf8.first", "unicode/utf8.acceptRanges"], loops := true, apart := false, laid := [("unicode/utf8.acceptRanges", laid_unicode_utf8_acceptRanges), ("unicode/utf8.first", laid_unicode_utf8_first)] }
def FreeBoundSaid : Prop := freeBoundRow.holds Tryd.pinned (OpenSpec.ofChange freeBoundSpec)

/-- ITS FALSE NEIGHBOUR: 'it returns false'. Refute it at one input. -/
def freeBoundWrong : ChangeSpec := { name := "freeBound", fn := fun _ => fun
  | [d1, d2, d3, d4] => { results := [.lit (.bool false)], args := [d1, d2, d3, d4] }
  | _ => none }
def FreeBoundWrongFalsely : Prop := freeBoundRow.holds Tryd.pinned (OpenSpec.ofChange freeBoundWrong)

/- THE SECOND FORM. 'bulk': how many values and letters a reading holds, each counted each time it is reached (what is shared counts as often as it is met; a slice's spare places count too). A statement '..UptoSaid' is the law's where the arguments, and the package variables that the reading takes, are together of bulk at most 1048576: NARROWER than '..Said'. Prove '..Said' where nothing that the law and all that it calls make is longer than what came in: it says more and counts as full. Else prove '..UptoSaid'. A law counts once. -/
mutual
def uptoBulk {H : Type} : DataW H → Nat
  | .lit (.string bytes) => bytes.length + 1
  | .lit _ => 1
  | .nil => 1
  | .ptr d => uptoBulk d + 1
  | .slice elems spare => uptoBulkAll elems + uptoBulkAll spare + 1
  | .agg parts => uptoBulkAll parts + 1
  | .iface _ d => uptoBulk d + 1
  | .map entries => uptoBulkEntries entries + 1
  | .held _ => 1
def uptoBulkAll {H : Type} : List (DataW H) → Nat
  | [] => 0
  | d :: r => uptoBulk d + uptoBulkAll r
def uptoBulkEntries {H : Type} : List (Lit × DataW H) → Nat
  | [] => 0
  | x :: r => uptoBulkEntry x + uptoBulkEntries r
def uptoBulkEntry {H : Type} : Lit × DataW H → Nat
  | (.string bytes, d) => bytes.length + uptoBulk d + 1
  | (_, d) => uptoBulk d + 1
 end
def uptoSmall : (H : Type) → List (DataW H) → Bool := fun _ ds => decide (uptoBulkAll ds ≤ 1048576)
def OpenSpec.upto (s : _root_.Go.ChangeSpec) : _root_.Go.OpenSpec := { _root_.Go.OpenSpec.ofChange s with cond := some uptoSmall }

/-- 'sibyllaw3.TreeIs', WHERE WHAT IT READS IS OF BULK AT MOST 1048576: true; the input reads as it did. -/
def treeIsUptoRow : OpenClaim := { program := "ytmjnbdkjekdkgaadoor", sum := "f3fb8d6e5db268b9c8a5b8cf86d19152559a1c50fe310fc50aff44f652c31b55", func := "sibyl/sibyllaw3.TreeIs", spec := "treeIs", unfollowed := true, recurses := true, named := ["unicode/utf8.first", "unicode/utf8.acceptRanges"], loops := true, apart := false, laid := [("unicode/utf8.acceptRanges", laid_unicode_utf8_acceptRanges), ("unicode/utf8.first", laid_unicode_utf8_first)], narrowed := true }
def TreeIsUptoSaid : Prop := treeIsUptoRow.holds Tryd.pinned (OpenSpec.upto treeIsSpec)

/-- 'sibyllaw3.TreeProgs', WHERE WHAT IT READS IS OF BULK AT MOST 1048576: true; the input reads as it did. -/
def treeProgsUptoRow : OpenClaim := { program := "ytmjnbdkjekdkgaadoor", sum := "f3fb8d6e5db268b9c8a5b8cf86d19152559a1c50fe310fc50aff44f652c31b55", func := "sibyl/sibyllaw3.TreeProgs", spec := "treeProgs", unfollowed := true, recurses := true, named := ["unicode/utf8.first", "unicode/utf8.acceptRanges"], loops := true, apart := false, laid := [("unicode/utf8.acceptRanges", laid_unicode_utf8_acceptRanges), ("unicode/utf8.first", laid_unicode_utf8_first)], narrowed := true }
def TreeProgsUptoSaid : Prop := treeProgsUptoRow.holds Tryd.pinned (OpenSpec.upto treeProgsSpec)

/-- 'sibyllaw7.FreeNames', WHERE WHAT IT READS IS OF BULK AT MOST 1048576: true; the input reads as it did. -/
def freeNamesUptoRow : OpenClaim := { program := "ytmjnbdkjekdkgaadoor", sum := "f3fb8d6e5db268b9c8a5b8cf86d19152559a1c50fe310fc50aff44f652c31b55", func := "sibyl/sibyllaw7.FreeNames", spec := "freeNames", recurses := true, named := ["unicode/utf8.first", "unicode/utf8.acceptRanges"], loops := true, apart := false, laid := [("unicode/utf8.acceptRanges", laid_unicode_utf8_acceptRanges), ("unicode/utf8.first", laid_unicode_utf8_first)], narrowed := true }
def FreeNamesUptoSaid : Prop := freeNamesUptoRow.holds Tryd.pinned (OpenSpec.upto freeNamesSpec)

/-- 'sibyllaw7.FreeLeaves', WHERE WHAT IT READS IS OF BULK AT MOST 1048576: true; the input reads as it did. -/
def freeLeavesUptoRow : OpenClaim := { program := "ytmjnbdkjekdkgaadoor", sum := "f3fb8d6e5db268b9c8a5b8cf86d19152559a1c50fe310fc50aff44f652c31b55", func := "sibyl/sibyllaw7.FreeLeaves", spec := "freeLeaves", recurses := true, named := ["unicode/utf8.first", "unicode/utf8.acceptRanges"], loops := true, apart := false, laid := [("unicode/utf8.acceptRanges", laid_unicode_utf8_acceptRanges), ("unicode/utf8.first", laid_unicode_utf8_first)], narrowed := true }
def FreeLeavesUptoSaid : Prop := freeLeavesUptoRow.holds Tryd.pinned (OpenSpec.upto freeLeavesSpec)

/-- 'sibyllaw7.FreeSelf', WHERE WHAT IT READS IS OF BULK AT MOST 1048576: true; the input reads as it did. -/
def freeSelfUptoRow : OpenClaim := { program := "ytmjnbdkjekdkgaadoor", sum := "f3fb8d6e5db268b9c8a5b8cf86d19152559a1c50fe310fc50aff44f652c31b55", func := "sibyl/sibyllaw7.FreeSelf", spec := "freeSelf", recurses := true, named := ["unicode/utf8.first", "unicode/utf8.acceptRanges"], loops := true, apart := false, laid := [("unicode/utf8.acceptRanges", laid_unicode_utf8_acceptRanges), ("unicode/utf8.first", laid_unicode_utf8_first)], narrowed := true }
def FreeSelfUptoSaid : Prop := freeSelfUptoRow.holds Tryd.pinned (OpenSpec.upto freeSelfSpec)

/-- 'sibyllaw7.FreeJoin', WHERE WHAT IT READS IS OF BULK AT MOST 1048576: true; the input reads as it did. -/
def freeJoinUptoRow : OpenClaim := { program := "ytmjnbdkjekdkgaadoor", sum := "f3fb8d6e5db268b9c8a5b8cf86d19152559a1c50fe310fc50aff44f652c31b55", func := "sibyl/sibyllaw7.FreeJoin", spec := "freeJoin", recurses := true, named := ["unicode/utf8.first", "unicode/utf8.acceptRanges"], apart := false, laid := [("unicode/utf8.acceptRanges", laid_unicode_utf8_acceptRanges), ("unicode/utf8.first", laid_unicode_utf8_first)], narrowed := true }
def FreeJoinUptoSaid : Prop := freeJoinUptoRow.holds Tryd.pinned (OpenSpec.upto freeJoinSpec)

/-- 'sibyllaw7.FreeBound', WHERE WHAT IT READS IS OF BULK AT MOST 1048576: true; the input reads as it did. -/
def freeBoundUptoRow : OpenClaim := { program := "ytmjnbdkjekdkgaadoor", sum := "f3fb8d6e5db268b9c8a5b8cf86d19152559a1c50fe310fc50aff44f652c31b55", func := "sibyl/sibyllaw7.FreeBound", spec := "freeBound", recurses := true, named := ["unicode/utf8.first", "unicode/utf8.acceptRanges"], loops := true, apart := false, laid := [("unicode/utf8.acceptRanges", laid_unicode_utf8_acceptRanges), ("unicode/utf8.first", laid_unicode_utf8_first)], narrowed := true }
def FreeBoundUptoSaid : Prop := freeBoundUptoRow.holds Tryd.pinned (OpenSpec.upto freeBoundSpec)

end Rows
end Go.Proofs.YtmjnbdkjekdkgaaDoor
