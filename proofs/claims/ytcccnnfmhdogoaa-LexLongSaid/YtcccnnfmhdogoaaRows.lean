/-
  No cell of these rows narrows 'for every input' (looked for: loops, veiled, ifaces, maps, wideKeys, modest, calm, conditions, laid).
  DERIVED. THE GIVEN ROWS OF THIS SEAT. 5 by the template 'for every input the law returns true; each argument reads behind the call as it read before'; 0 by the template 'total and deterministic' (their statements: YtcccnnfmhdogoaaTotals.lean).
  GIVEN WITH THE SEED: the statements are not yours to turn. If you find one false, say at which input.
  Laid BY PROGRAM, IN A SANDBOX (cutbox-rows.mjs): the forced cells as the released guide's own fill.sh prints them over the translation 129ebc1563cfabab… (all of the seat's roots in one cut). By AI agents, Wed Nov 11 2026. No macro, syntax, notation, axiom, sorry.
-/
import Derived.Test.YtcccnnfmhdogoaaChecked
import GoSem.Claim
import GoSem.ClaimJoined
import GoSem.ClaimMapViews
import Derived.JoinedTies
import Derived.KernelRfl
namespace Go.Proofs.Ytcccnnfmhdogoaa
/- THE CELL 'sum', in the pinned program and in every row, IS THE sha256 OF THE DUMP (.gsa) THAT YtcccnnfmhdogoaaProg.lean LOADS. Nothing in Lean hashes anything: it is a label: what it is worth is what the hold of that sum in a sandbox is worth. -/
noncomputable def Try.pinned : Pinned := { name := "ytcccnnfmhdogoaa", sum := "129ebc1563cfabab05afc921e62088dcec46593e6a313506e2d1a28b6f56ffaa", checked := Try.checked }
namespace Rows
def none {H : Type} : Left H := { results := [], args := [] }

/-- 'sibyllaw1.RunesClass': WHATEVER THE INPUT: true; the input reads as it did. -/
def runesClassSpec : ChangeSpec := { name := "runesClass", fn := fun _ => fun
  | [d] => { results := [.lit (.bool true)], args := [d] }
  | _ => none }
def runesClassRow : OpenClaim := { program := "ytcccnnfmhdogoaa", sum := "129ebc1563cfabab05afc921e62088dcec46593e6a313506e2d1a28b6f56ffaa", func := "sibyl/sibyllaw1.RunesClass", spec := "runesClass", apart := false }
def RunesClassSaid : Prop := runesClassRow.holds Try.pinned (OpenSpec.ofChange runesClassSpec)

/-- ITS FALSE NEIGHBOUR: 'it returns false'. Refute it at one input. -/
def runesClassWrong : ChangeSpec := { name := "runesClass", fn := fun _ => fun
  | [d] => { results := [.lit (.bool false)], args := [d] }
  | _ => none }
def RunesClassWrongFalsely : Prop := runesClassRow.holds Try.pinned (OpenSpec.ofChange runesClassWrong)

/-- 'sibyllaw1.RunesLines': WHATEVER THE INPUT: true; the input reads as it did. -/
def runesLinesSpec : ChangeSpec := { name := "runesLines", fn := fun _ => fun
  | [d1, d2] => { results := [.lit (.bool true)], args := [d1, d2] }
  | _ => none }
def runesLinesRow : OpenClaim := { program := "ytcccnnfmhdogoaa", sum := "129ebc1563cfabab05afc921e62088dcec46593e6a313506e2d1a28b6f56ffaa", func := "sibyl/sibyllaw1.RunesLines", spec := "runesLines", apart := false }
def RunesLinesSaid : Prop := runesLinesRow.holds Try.pinned (OpenSpec.ofChange runesLinesSpec)

/-- ITS FALSE NEIGHBOUR: 'it returns false'. Refute it at one input. -/
def runesLinesWrong : ChangeSpec := { name := "runesLines", fn := fun _ => fun
  | [d1, d2] => { results := [.lit (.bool false)], args := [d1, d2] }
  | _ => none }
def RunesLinesWrongFalsely : Prop := runesLinesRow.holds Try.pinned (OpenSpec.ofChange runesLinesWrong)

/-- 'sibyllaw2.LexWords': WHATEVER THE INPUT: true; the input reads as it did. -/
def lexWordsSpec : ChangeSpec := { name := "lexWords", fn := fun _ => fun
  | [d] => { results := [.lit (.bool true)], args := [d] }
  | _ => none }
def lexWordsRow : OpenClaim := { program := "ytcccnnfmhdogoaa", sum := "129ebc1563cfabab05afc921e62088dcec46593e6a313506e2d1a28b6f56ffaa", func := "sibyl/sibyllaw2.LexWords", spec := "lexWords", apart := false }
def LexWordsSaid : Prop := lexWordsRow.holds Try.pinned (OpenSpec.ofChange lexWordsSpec)

/-- ITS FALSE NEIGHBOUR: 'it returns false'. Refute it at one input. -/
def lexWordsWrong : ChangeSpec := { name := "lexWords", fn := fun _ => fun
  | [d] => { results := [.lit (.bool false)], args := [d] }
  | _ => none }
def LexWordsWrongFalsely : Prop := lexWordsRow.holds Try.pinned (OpenSpec.ofChange lexWordsWrong)

/-- 'sibyllaw2.LexNumbers': WHATEVER THE INPUT: true; the input reads as it did. -/
def lexNumbersSpec : ChangeSpec := { name := "lexNumbers", fn := fun _ => fun
  | [d1, d2] => { results := [.lit (.bool true)], args := [d1, d2] }
  | _ => none }
def lexNumbersRow : OpenClaim := { program := "ytcccnnfmhdogoaa", sum := "129ebc1563cfabab05afc921e62088dcec46593e6a313506e2d1a28b6f56ffaa", func := "sibyl/sibyllaw2.LexNumbers", spec := "lexNumbers", apart := false }
def LexNumbersSaid : Prop := lexNumbersRow.holds Try.pinned (OpenSpec.ofChange lexNumbersSpec)

/-- ITS FALSE NEIGHBOUR: 'it returns false'. Refute it at one input. -/
def lexNumbersWrong : ChangeSpec := { name := "lexNumbers", fn := fun _ => fun
  | [d1, d2] => { results := [.lit (.bool false)], args := [d1, d2] }
  | _ => none }
def LexNumbersWrongFalsely : Prop := lexNumbersRow.holds Try.pinned (OpenSpec.ofChange lexNumbersWrong)

/-- 'sibyllaw2.LexLong': WHATEVER THE INPUT: true; the input reads as it did. -/
def lexLongSpec : ChangeSpec := { name := "lexLong", fn := fun _ => fun
  | [d1, d2] => { results := [.lit (.bool true)], args := [d1, d2] }
  | _ => none }
def lexLongRow : OpenClaim := { program := "ytcccnnfmhdogoaa", sum := "129ebc1563cfabab05afc921e62088dcec46593e6a313506e2d1a28b6f56ffaa", func := "sibyl/sibyllaw2.LexLong", spec := "lexLong", apart := false }
def LexLongSaid : Prop := lexLongRow.holds Try.pinned (OpenSpec.ofChange lexLongSpec)

/-- ITS FALSE NEIGHBOUR: 'it returns false'. Refute it at one input. -/
def lexLongWrong : ChangeSpec := { name := "lexLong", fn := fun _ => fun
  | [d1, d2] => { results := [.lit (.bool false)], args := [d1, d2] }
  | _ => none }
def LexLongWrongFalsely : Prop := lexLongRow.holds Try.pinned (OpenSpec.ofChange lexLongWrong)

/- THE SECOND FORM. 'bulk': how many values and letters a reading holds, each counted each time it is reached (what is shared counts as often as it is met; a slice's spare places count too). A statement '..UptoSaid' is the law's where the arguments, and the package variables that the reading takes, are together of bulk at most 1048576: NARROWER than '..Said'. Prove '..Said' where nothing that the law and all that it calls make is longer than what came in: it says more and counts as full. Else prove '..UptoSaid'. A law counts once. -/
mutual
def uptoBulk {H : Type} : DataW H → Nat
  | .lit (.string bytes) => bytes.length + 1
  | .lit _ => 1
  | .nil => 1
  | .ptr d => uptoBulk d + 1
  | .slice elems spare => uptoBulkAll elems + uptoBulkAll spare + 1
  | .agg parts => uptoBulkAll parts + 1
  | .iface _ d => uptoBulk d + 1
  | .map entries => uptoBulkEntries entries + 1
  | .held _ => 1
def uptoBulkAll {H : Type} : List (DataW H) → Nat
  | [] => 0
  | d :: r => uptoBulk d + uptoBulkAll r
def uptoBulkEntries {H : Type} : List (Lit × DataW H) → Nat
  | [] => 0
  | x :: r => uptoBulkEntry x + uptoBulkEntries r
def uptoBulkEntry {H : Type} : Lit × DataW H → Nat
  | (.string bytes, d) => bytes.length + uptoBulk d + 1
  | (_, d) => uptoBulk d + 1
 end
def uptoSmall : (H : Type) → List (DataW H) → Bool := fun _ ds => decide (uptoBulkAll ds ≤ 1048576)
def OpenSpec.upto (s : _root_.Go.ChangeSpec) : _root_.Go.OpenSpec := { _root_.Go.OpenSpec.ofChange s with cond := some uptoSmall }

/-- 'sibyllaw1.RunesClass', WHERE WHAT IT READS IS OF BULK AT MOST 1048576: true; the input reads as it did. -/
def runesClassUptoRow : OpenClaim := { program := "ytcccnnfmhdogoaa", sum := "129ebc1563cfabab05afc921e62088dcec46593e6a313506e2d1a28b6f56ffaa", func := "sibyl/sibyllaw1.RunesClass", spec := "runesClass", apart := false, narrowed := true }
def RunesClassUptoSaid : Prop := runesClassUptoRow.holds Try.pinned (OpenSpec.upto runesClassSpec)

/-- 'sibyllaw1.RunesLines', WHERE WHAT IT READS IS OF BULK AT MOST 1048576: true; the input reads as it did. -/
def runesLinesUptoRow : OpenClaim := { program := "ytcccnnfmhdogoaa", sum := "129ebc1563cfabab05afc921e62088dcec46593e6a313506e2d1a28b6f56ffaa", func := "sibyl/sibyllaw1.RunesLines", spec := "runesLines", apart := false, narrowed := true }
def RunesLinesUptoSaid : Prop := runesLinesUptoRow.holds Try.pinned (OpenSpec.upto runesLinesSpec)

/-- 'sibyllaw2.LexWords', WHERE WHAT IT READS IS OF BULK AT MOST 1048576: true; the input reads as it did. -/
def lexWordsUptoRow : OpenClaim := { program := "ytcccnnfmhdogoaa", sum := "129ebc1563cfabab05afc921e62088dcec46593e6a313506e2d1a28b6f56ffaa", func := "sibyl/sibyllaw2.LexWords", spec := "lexWords", apart := false, narrowed := true }
def LexWordsUptoSaid : Prop := lexWordsUptoRow.holds Try.pinned (OpenSpec.upto lexWordsSpec)

/-- 'sibyllaw2.LexNumbers', WHERE WHAT IT READS IS OF BULK AT MOST 1048576: true; the input reads as it did. -/
def lexNumbersUptoRow : OpenClaim := { program := "ytcccnnfmhdogoaa", sum := "129ebc1563cfabab05afc921e62088dcec46593e6a313506e2d1a28b6f56ffaa", func := "sibyl/sibyllaw2.LexNumbers", spec := "lexNumbers", apart := false, narrowed := true }
def LexNumbersUptoSaid : Prop := lexNumbersUptoRow.holds Try.pinned (OpenSpec.upto lexNumbersSpec)

/-- 'sibyllaw2.LexLong', WHERE WHAT IT READS IS OF BULK AT MOST 1048576: true; the input reads as it did. -/
def lexLongUptoRow : OpenClaim := { program := "ytcccnnfmhdogoaa", sum := "129ebc1563cfabab05afc921e62088dcec46593e6a313506e2d1a28b6f56ffaa", func := "sibyl/sibyllaw2.LexLong", spec := "lexLong", apart := false, narrowed := true }
def LexLongUptoSaid : Prop := lexLongUptoRow.holds Try.pinned (OpenSpec.upto lexLongSpec)

end Rows
end Go.Proofs.Ytcccnnfmhdogoaa
