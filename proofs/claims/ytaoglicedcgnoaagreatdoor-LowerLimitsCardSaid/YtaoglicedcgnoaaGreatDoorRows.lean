/-
  NARROWER THAN 'FOR EVERY INPUT', by the rows' own cells (each row's printed sentence says how): KindsWords: laid · LowerForms: laid · LowerLimits: laid · MacroCaught: laid · MacroGrows: laid · CompTruths: laid · SolveKnown: laid · SolveLeast: laid.
  DERIVED. THE GIVEN ROWS OF THIS SEAT. 8 by the template 'for every input the law returns true; each argument reads behind the call as it read before'; 0 by the template 'total and deterministic' (their statements: YtaoglicedcgnoaaGreatDoorTotals.lean).
  GIVEN WITH THE SEED: the statements are not yours to turn. If you find one false, say at which input.
  Laid BY PROGRAM, IN A SANDBOX (cutbox-rows.mjs): the forced cells as the released guide's own fill.sh prints them over the translation 28dca773bacaef2f… (all of the seat's roots in one cut). By AI agents, Wed Nov 11 2026. No macro, syntax, notation, axiom, sorry.
-/
import Derived.Test.YtaoglicedcgnoaaGreatDoorChecked
import GoSem.PinnedTables
import GoSem.Claim
import GoSem.ClaimJoined
import GoSem.ClaimMapViews
import Derived.JoinedTies
import Derived.KernelRfl
namespace Go.Proofs.YtaoglicedcgnoaaGreatDoor
/- THE CELL 'sum', in the pinned program and in every row, IS THE sha256 OF THE DUMP (.gsa) THAT YtaoglicedcgnoaaGreatDoorProg.lean LOADS. Nothing in Lean hashes anything: it is a label: what it is worth is what the hold of that sum in a sandbox is worth. -/
noncomputable def Tryz.pinned : Pinned := { name := "ytaoglicedcgnoaagreatdoor", sum := "28dca773bacaef2fcc0e5daecdca8950e67a68a8c4689a842c2cae55ae22228c", checked := Tryz.checked }
namespace Rows
def none {H : Type} : Left H := { results := [], args := [] }

/- WHAT THE LISTED PACKAGE-LEVEL VARIABLES READ AS WHEN THE CALL BEGINS. Each datum BY PROGRAM (the guide's laid-datum.mjs) off the statement by which the dump's own 'gosem.cut.vars' lays the variable. In a bare row this is a premise. The card (YtaoglicedcgnoaaGreatDoorCards.lean) ties it to the program's text. -/
def laid_unicode_utf8_acceptRanges {H : Type} : DataW H := .agg [.agg [.lit (.int .u8 128), .lit (.int .u8 191)], .agg [.lit (.int .u8 160), .lit (.int .u8 191)], .agg [.lit (.int .u8 128), .lit (.int .u8 159)], .agg [.lit (.int .u8 144), .lit (.int .u8 191)], .agg [.lit (.int .u8 128), .lit (.int .u8 143)], .agg [.lit (.int .u8 0), .lit (.int .u8 0)], .agg [.lit (.int .u8 0), .lit (.int .u8 0)], .agg [.lit (.int .u8 0), .lit (.int .u8 0)], .agg [.lit (.int .u8 0), .lit (.int .u8 0)], .agg [.lit (.int .u8 0), .lit (.int .u8 0)], .agg [.lit (.int .u8 0), .lit (.int .u8 0)], .agg [.lit (.int .u8 0), .lit (.int .u8 0)], .agg [.lit (.int .u8 0), .lit (.int .u8 0)], .agg [.lit (.int .u8 0), .lit (.int .u8 0)], .agg [.lit (.int .u8 0), .lit (.int .u8 0)], .agg [.lit (.int .u8 0), .lit (.int .u8 0)]]
/-- One of Go's own tables, pinned by name: the form's constant. -/
def laid_unicode_utf8_first : DataW Unit := Go.Pinned.utf8First
def laid_math_bits_deBruijn32tab {H : Type} : DataW H := .agg [.lit (.int .u8 0), .lit (.int .u8 1), .lit (.int .u8 28), .lit (.int .u8 2), .lit (.int .u8 29), .lit (.int .u8 14), .lit (.int .u8 24), .lit (.int .u8 3), .lit (.int .u8 30), .lit (.int .u8 22), .lit (.int .u8 20), .lit (.int .u8 15), .lit (.int .u8 25), .lit (.int .u8 17), .lit (.int .u8 4), .lit (.int .u8 8), .lit (.int .u8 31), .lit (.int .u8 27), .lit (.int .u8 13), .lit (.int .u8 23), .lit (.int .u8 21), .lit (.int .u8 19), .lit (.int .u8 16), .lit (.int .u8 7), .lit (.int .u8 26), .lit (.int .u8 12), .lit (.int .u8 18), .lit (.int .u8 6), .lit (.int .u8 11), .lit (.int .u8 5), .lit (.int .u8 10), .lit (.int .u8 9)]
def laid_math_bits_deBruijn64tab {H : Type} : DataW H := .agg [.lit (.int .u8 0), .lit (.int .u8 1), .lit (.int .u8 56), .lit (.int .u8 2), .lit (.int .u8 57), .lit (.int .u8 49), .lit (.int .u8 28), .lit (.int .u8 3), .lit (.int .u8 61), .lit (.int .u8 58), .lit (.int .u8 42), .lit (.int .u8 50), .lit (.int .u8 38), .lit (.int .u8 29), .lit (.int .u8 17), .lit (.int .u8 4), .lit (.int .u8 62), .lit (.int .u8 47), .lit (.int .u8 59), .lit (.int .u8 36), .lit (.int .u8 45), .lit (.int .u8 43), .lit (.int .u8 51), .lit (.int .u8 22), .lit (.int .u8 53), .lit (.int .u8 39), .lit (.int .u8 33), .lit (.int .u8 30), .lit (.int .u8 24), .lit (.int .u8 18), .lit (.int .u8 12), .lit (.int .u8 5), .lit (.int .u8 63), .lit (.int .u8 55), .lit (.int .u8 48), .lit (.int .u8 27), .lit (.int .u8 60), .lit (.int .u8 41), .lit (.int .u8 37), .lit (.int .u8 16), .lit (.int .u8 46), .lit (.int .u8 35), .lit (.int .u8 44), .lit (.int .u8 21), .lit (.int .u8 52), .lit (.int .u8 32), .lit (.int .u8 23), .lit (.int .u8 11), .lit (.int .u8 54), .lit (.int .u8 26), .lit (.int .u8 40), .lit (.int .u8 15), .lit (.int .u8 34), .lit (.int .u8 20), .lit (.int .u8 31), .lit (.int .u8 10), .lit (.int .u8 25), .lit (.int .u8 14), .lit (.int .u8 19), .lit (.int .u8 9), .lit (.int .u8 13), .lit (.int .u8 8), .lit (.int .u8 7), .lit (.int .u8 6)]
def laid_internal_strconv_uint64pow10 {H : Type} : DataW H := .agg [.lit (.int .u64 1), .lit (.int .u64 10), .lit (.int .u64 100), .lit (.int .u64 1000), .lit (.int .u64 10000), .lit (.int .u64 100000), .lit (.int .u64 1000000), .lit (.int .u64 10000000), .lit (.int .u64 100000000), .lit (.int .u64 1000000000), .lit (.int .u64 10000000000), .lit (.int .u64 100000000000), .lit (.int .u64 1000000000000), .lit (.int .u64 10000000000000), .lit (.int .u64 100000000000000), .lit (.int .u64 1000000000000000), .lit (.int .u64 10000000000000000), .lit (.int .u64 100000000000000000), .lit (.int .u64 1000000000000000000), .lit (.int .u64 10000000000000000000)]

/-- 'sibyllaw6.KindsWords': WHATEVER THE INPUT: true; the input reads as it did. -/
def kindsWordsSpec : ChangeSpec := { name := "kindsWords", fn := fun _ => fun
  | [d] => { results := [.lit (.bool true)], args := [d] }
  | _ => none }
def kindsWordsRow : OpenClaim := { program := "ytaoglicedcgnoaagreatdoor", sum := "28dca773bacaef2fcc0e5daecdca8950e67a68a8c4689a842c2cae55ae22228c", func := "sibyl/sibyllaw6.KindsWords", spec := "kindsWords", unfollowed := true, recurses := true, named := ["unicode/utf8.first", "unicode/utf8.acceptRanges"], plainKeys := false, apart := false, laid := [("unicode/utf8.acceptRanges", laid_unicode_utf8_acceptRanges), ("unicode/utf8.first", laid_unicode_utf8_first)] }
def KindsWordsSaid : Prop := kindsWordsRow.holds Tryz.pinned (OpenSpec.ofChange kindsWordsSpec)

/-- ITS FALSE NEIGHBOUR: 'it returns false'. Refute it at one input. -/
def kindsWordsWrong : ChangeSpec := { name := "kindsWords", fn := fun _ => fun
  | [d] => { results := [.lit (.bool false)], args := [d] }
  | _ => none }
def KindsWordsWrongFalsely : Prop := kindsWordsRow.holds Tryz.pinned (OpenSpec.ofChange kindsWordsWrong)

/-- 'sibyllaw10.LowerForms': WHATEVER THE INPUT: true; the input reads as it did. -/
def lowerFormsSpec : ChangeSpec := { name := "lowerForms", fn := fun _ => fun
  | [d] => { results := [.lit (.bool true)], args := [d] }
  | _ => none }
def lowerFormsRow : OpenClaim := { program := "ytaoglicedcgnoaagreatdoor", sum := "28dca773bacaef2fcc0e5daecdca8950e67a68a8c4689a842c2cae55ae22228c", func := "sibyl/sibyllaw10.LowerForms", spec := "lowerForms", unfollowed := true, recurses := true, named := ["unicode/utf8.first", "unicode/utf8.acceptRanges"], plainKeys := false, apart := false, laid := [("unicode/utf8.acceptRanges", laid_unicode_utf8_acceptRanges), ("unicode/utf8.first", laid_unicode_utf8_first)] }
def LowerFormsSaid : Prop := lowerFormsRow.holds Tryz.pinned (OpenSpec.ofChange lowerFormsSpec)

/-- ITS FALSE NEIGHBOUR: 'it returns false'. Refute it at one input. -/
def lowerFormsWrong : ChangeSpec := { name := "lowerForms", fn := fun _ => fun
  | [d] => { results := [.lit (.bool false)], args := [d] }
  | _ => none }
def LowerFormsWrongFalsely : Prop := lowerFormsRow.holds Tryz.pinned (OpenSpec.ofChange lowerFormsWrong)

/-- 'sibyllaw10.LowerLimits': WHATEVER THE INPUT: true; the input reads as it did. -/
def lowerLimitsSpec : ChangeSpec := { name := "lowerLimits", fn := fun _ => fun
  | [d1, d2] => { results := [.lit (.bool true)], args := [d1, d2] }
  | _ => none }
def lowerLimitsRow : OpenClaim := { program := "ytaoglicedcgnoaagreatdoor", sum := "28dca773bacaef2fcc0e5daecdca8950e67a68a8c4689a842c2cae55ae22228c", func := "sibyl/sibyllaw10.LowerLimits", spec := "lowerLimits", unfollowed := true, recurses := true, named := ["unicode/utf8.first", "unicode/utf8.acceptRanges"], plainKeys := false, apart := false, laid := [("unicode/utf8.acceptRanges", laid_unicode_utf8_acceptRanges), ("unicode/utf8.first", laid_unicode_utf8_first)] }
def LowerLimitsSaid : Prop := lowerLimitsRow.holds Tryz.pinned (OpenSpec.ofChange lowerLimitsSpec)

/-- ITS FALSE NEIGHBOUR: 'it returns false'. Refute it at one input. -/
def lowerLimitsWrong : ChangeSpec := { name := "lowerLimits", fn := fun _ => fun
  | [d1, d2] => { results := [.lit (.bool false)], args := [d1, d2] }
  | _ => none }
def LowerLimitsWrongFalsely : Prop := lowerLimitsRow.holds Tryz.pinned (OpenSpec.ofChange lowerLimitsWrong)

/-- 'sibyllaw8.MacroCaught': WHATEVER THE INPUT: true; the input reads as it did. -/
def macroCaughtSpec : ChangeSpec := { name := "macroCaught", fn := fun _ => fun
  | [d] => { results := [.lit (.bool true)], args := [d] }
  | _ => none }
def macroCaughtRow : OpenClaim := { program := "ytaoglicedcgnoaagreatdoor", sum := "28dca773bacaef2fcc0e5daecdca8950e67a68a8c4689a842c2cae55ae22228c", func := "sibyl/sibyllaw8.MacroCaught", spec := "macroCaught", unfollowed := true, recurses := true, named := ["unicode/utf8.first", "unicode/utf8.acceptRanges"], plainKeys := false, apart := false, laid := [("unicode/utf8.acceptRanges", laid_unicode_utf8_acceptRanges), ("unicode/utf8.first", laid_unicode_utf8_first)] }
def MacroCaughtSaid : Prop := macroCaughtRow.holds Tryz.pinned (OpenSpec.ofChange macroCaughtSpec)

/-- ITS FALSE NEIGHBOUR: 'it returns false'. Refute it at one input. -/
def macroCaughtWrong : ChangeSpec := { name := "macroCaught", fn := fun _ => fun
  | [d] => { results := [.lit (.bool false)], args := [d] }
  | _ => none }
def MacroCaughtWrongFalsely : Prop := macroCaughtRow.holds Tryz.pinned (OpenSpec.ofChange macroCaughtWrong)

/-- 'sibyllaw8.MacroGrows': WHATEVER THE INPUT: true; the input reads as it did. -/
def macroGrowsSpec : ChangeSpec := { name := "macroGrows", fn := fun _ => fun
  | [d] => { results := [.lit (.bool true)], args := [d] }
  | _ => none }
def macroGrowsRow : OpenClaim := { program := "ytaoglicedcgnoaagreatdoor", sum := "28dca773bacaef2fcc0e5daecdca8950e67a68a8c4689a842c2cae55ae22228c", func := "sibyl/sibyllaw8.MacroGrows", spec := "macroGrows", unfollowed := true, recurses := true, named := ["unicode/utf8.first", "unicode/utf8.acceptRanges"], plainKeys := false, apart := false, laid := [("unicode/utf8.acceptRanges", laid_unicode_utf8_acceptRanges), ("unicode/utf8.first", laid_unicode_utf8_first)] }
def MacroGrowsSaid : Prop := macroGrowsRow.holds Tryz.pinned (OpenSpec.ofChange macroGrowsSpec)

/-- ITS FALSE NEIGHBOUR: 'it returns false'. Refute it at one input. -/
def macroGrowsWrong : ChangeSpec := { name := "macroGrows", fn := fun _ => fun
  | [d] => { results := [.lit (.bool false)], args := [d] }
  | _ => none }
def MacroGrowsWrongFalsely : Prop := macroGrowsRow.holds Tryz.pinned (OpenSpec.ofChange macroGrowsWrong)

/-- 'sibyllaw26.CompTruths': WHATEVER THE INPUT: true; the input reads as it did. -/
def compTruthsSpec : ChangeSpec := { name := "compTruths", fn := fun _ => fun
  | [d] => { results := [.lit (.bool true)], args := [d] }
  | _ => none }
def compTruthsRow : OpenClaim := { program := "ytaoglicedcgnoaagreatdoor", sum := "28dca773bacaef2fcc0e5daecdca8950e67a68a8c4689a842c2cae55ae22228c", func := "sibyl/sibyllaw26.CompTruths", spec := "compTruths", unfollowed := true, recurses := true, named := ["internal/strconv.uint64pow10", "math/bits.deBruijn32tab", "math/bits.deBruijn64tab"], plainKeys := false, apart := false, laid := [("math/bits.deBruijn32tab", laid_math_bits_deBruijn32tab), ("math/bits.deBruijn64tab", laid_math_bits_deBruijn64tab), ("internal/strconv.uint64pow10", laid_internal_strconv_uint64pow10)] }
def CompTruthsSaid : Prop := compTruthsRow.holds Tryz.pinned (OpenSpec.ofChange compTruthsSpec)

/-- ITS FALSE NEIGHBOUR: 'it returns false'. Refute it at one input. -/
def compTruthsWrong : ChangeSpec := { name := "compTruths", fn := fun _ => fun
  | [d] => { results := [.lit (.bool false)], args := [d] }
  | _ => none }
def CompTruthsWrongFalsely : Prop := compTruthsRow.holds Tryz.pinned (OpenSpec.ofChange compTruthsWrong)

/-- 'sibyllaw28.SolveKnown': WHATEVER THE INPUT: true; the input reads as it did. -/
def solveKnownSpec : ChangeSpec := { name := "solveKnown", fn := fun _ => fun
  | [d] => { results := [.lit (.bool true)], args := [d] }
  | _ => none }
def solveKnownRow : OpenClaim := { program := "ytaoglicedcgnoaagreatdoor", sum := "28dca773bacaef2fcc0e5daecdca8950e67a68a8c4689a842c2cae55ae22228c", func := "sibyl/sibyllaw28.SolveKnown", spec := "solveKnown", unfollowed := true, recurses := true, named := ["internal/strconv.uint64pow10", "math/bits.deBruijn32tab", "math/bits.deBruijn64tab"], plainKeys := false, apart := false, laid := [("math/bits.deBruijn32tab", laid_math_bits_deBruijn32tab), ("math/bits.deBruijn64tab", laid_math_bits_deBruijn64tab), ("internal/strconv.uint64pow10", laid_internal_strconv_uint64pow10)] }
def SolveKnownSaid : Prop := solveKnownRow.holds Tryz.pinned (OpenSpec.ofChange solveKnownSpec)

/-- ITS FALSE NEIGHBOUR: 'it returns false'. Refute it at one input. -/
def solveKnownWrong : ChangeSpec := { name := "solveKnown", fn := fun _ => fun
  | [d] => { results := [.lit (.bool false)], args := [d] }
  | _ => none }
def SolveKnownWrongFalsely : Prop := solveKnownRow.holds Tryz.pinned (OpenSpec.ofChange solveKnownWrong)

/-- 'sibyllaw28.SolveLeast': WHATEVER THE INPUT: true; the input reads as it did. -/
def solveLeastSpec : ChangeSpec := { name := "solveLeast", fn := fun _ => fun
  | [d] => { results := [.lit (.bool true)], args := [d] }
  | _ => none }
def solveLeastRow : OpenClaim := { program := "ytaoglicedcgnoaagreatdoor", sum := "28dca773bacaef2fcc0e5daecdca8950e67a68a8c4689a842c2cae55ae22228c", func := "sibyl/sibyllaw28.SolveLeast", spec := "solveLeast", unfollowed := true, recurses := true, named := ["internal/strconv.uint64pow10", "math/bits.deBruijn32tab", "math/bits.deBruijn64tab"], plainKeys := false, apart := false, laid := [("math/bits.deBruijn32tab", laid_math_bits_deBruijn32tab), ("math/bits.deBruijn64tab", laid_math_bits_deBruijn64tab), ("internal/strconv.uint64pow10", laid_internal_strconv_uint64pow10)] }
def SolveLeastSaid : Prop := solveLeastRow.holds Tryz.pinned (OpenSpec.ofChange solveLeastSpec)

/-- ITS FALSE NEIGHBOUR: 'it returns false'. Refute it at one input. -/
def solveLeastWrong : ChangeSpec := { name := "solveLeast", fn := fun _ => fun
  | [d] => { results := [.lit (.bool false)], args := [d] }
  | _ => none }
def SolveLeastWrongFalsely : Prop := solveLeastRow.holds Tryz.pinned (OpenSpec.ofChange solveLeastWrong)

/- THE SECOND FORM. 'bulk': how many values and letters a reading holds, each counted each time it is reached (what is shared counts as often as it is met; a slice's spare places count too). A statement '..UptoSaid' is the law's where the arguments, and the package variables that the reading takes, are together of bulk at most 1048576: NARROWER than '..Said'. Prove '..Said' where nothing that the law and all that it calls make is longer than what came in: it says more and counts as full. Else prove '..UptoSaid'. A law counts once. -/
mutual
def uptoBulk {H : Type} : DataW H → Nat
  | .lit (.string bytes) => bytes.length + 1
  | .lit _ => 1
  | .nil => 1
  | .ptr d => uptoBulk d + 1
  | .slice elems spare => uptoBulkAll elems + uptoBulkAll spare + 1
  | .agg parts => uptoBulkAll parts + 1
  | .iface _ d => uptoBulk d + 1
  | .map entries => uptoBulkEntries entries + 1
  | .held _ => 1
def uptoBulkAll {H : Type} : List (DataW H) → Nat
  | [] => 0
  | d :: r => uptoBulk d + uptoBulkAll r
def uptoBulkEntries {H : Type} : List (Lit × DataW H) → Nat
  | [] => 0
  | x :: r => uptoBulkEntry x + uptoBulkEntries r
def uptoBulkEntry {H : Type} : Lit × DataW H → Nat
  | (.string bytes, d) => bytes.length + uptoBulk d + 1
  | (_, d) => uptoBulk d + 1
 end
def uptoSmall : (H : Type) → List (DataW H) → Bool := fun _ ds => decide (uptoBulkAll ds ≤ 1048576)
def OpenSpec.upto (s : _root_.Go.ChangeSpec) : _root_.Go.OpenSpec := { _root_.Go.OpenSpec.ofChange s with cond := some uptoSmall }

/-- 'sibyllaw6.KindsWords', WHERE WHAT IT READS IS OF BULK AT MOST 1048576: true; the input reads as it did. -/
def kindsWordsUptoRow : OpenClaim := { program := "ytaoglicedcgnoaagreatdoor", sum := "28dca773bacaef2fcc0e5daecdca8950e67a68a8c4689a842c2cae55ae22228c", func := "sibyl/sibyllaw6.KindsWords", spec := "kindsWords", unfollowed := true, recurses := true, named := ["unicode/utf8.first", "unicode/utf8.acceptRanges"], plainKeys := false, apart := false, laid := [("unicode/utf8.acceptRanges", laid_unicode_utf8_acceptRanges), ("unicode/utf8.first", laid_unicode_utf8_first)], narrowed := true }
def KindsWordsUptoSaid : Prop := kindsWordsUptoRow.holds Tryz.pinned (OpenSpec.upto kindsWordsSpec)

/-- 'sibyllaw10.LowerForms', WHERE WHAT IT READS IS OF BULK AT MOST 1048576: true; the input reads as it did. -/
def lowerFormsUptoRow : OpenClaim := { program := "ytaoglicedcgnoaagreatdoor", sum := "28dca773bacaef2fcc0e5daecdca8950e67a68a8c4689a842c2cae55ae22228c", func := "sibyl/sibyllaw10.LowerForms", spec := "lowerForms", unfollowed := true, recurses := true, named := ["unicode/utf8.first", "unicode/utf8.acceptRanges"], plainKeys := false, apart := false, laid := [("unicode/utf8.acceptRanges", laid_unicode_utf8_acceptRanges), ("unicode/utf8.first", laid_unicode_utf8_first)], narrowed := true }
def LowerFormsUptoSaid : Prop := lowerFormsUptoRow.holds Tryz.pinned (OpenSpec.upto lowerFormsSpec)

/-- 'sibyllaw10.LowerLimits', WHERE WHAT IT READS IS OF BULK AT MOST 1048576: true; the input reads as it did. -/
def lowerLimitsUptoRow : OpenClaim := { program := "ytaoglicedcgnoaagreatdoor", sum := "28dca773bacaef2fcc0e5daecdca8950e67a68a8c4689a842c2cae55ae22228c", func := "sibyl/sibyllaw10.LowerLimits", spec := "lowerLimits", unfollowed := true, recurses := true, named := ["unicode/utf8.first", "unicode/utf8.acceptRanges"], plainKeys := false, apart := false, laid := [("unicode/utf8.acceptRanges", laid_unicode_utf8_acceptRanges), ("unicode/utf8.first", laid_unicode_utf8_first)], narrowed := true }
def LowerLimitsUptoSaid : Prop := lowerLimitsUptoRow.holds Tryz.pinned (OpenSpec.upto lowerLimitsSpec)

/-- 'sibyllaw8.MacroCaught', WHERE WHAT IT READS IS OF BULK AT MOST 1048576: true; the input reads as it did. -/
def macroCaughtUptoRow : OpenClaim := { program := "ytaoglicedcgnoaagreatdoor", sum := "28dca773bacaef2fcc0e5daecdca8950e67a68a8c4689a842c2cae55ae22228c", func := "sibyl/sibyllaw8.MacroCaught", spec := "macroCaught", unfollowed := true, recurses := true, named := ["unicode/utf8.first", "unicode/utf8.acceptRanges"], plainKeys := false, apart := false, laid := [("unicode/utf8.acceptRanges", laid_unicode_utf8_acceptRanges), ("unicode/utf8.first", laid_unicode_utf8_first)], narrowed := true }
def MacroCaughtUptoSaid : Prop := macroCaughtUptoRow.holds Tryz.pinned (OpenSpec.upto macroCaughtSpec)

/-- 'sibyllaw8.MacroGrows', WHERE WHAT IT READS IS OF BULK AT MOST 1048576: true; the input reads as it did. -/
def macroGrowsUptoRow : OpenClaim := { program := "ytaoglicedcgnoaagreatdoor", sum := "28dca773bacaef2fcc0e5daecdca8950e67a68a8c4689a842c2cae55ae22228c", func := "sibyl/sibyllaw8.MacroGrows", spec := "macroGrows", unfollowed := true, recurses := true, named := ["unicode/utf8.first", "unicode/utf8.acceptRanges"], plainKeys := false, apart := false, laid := [("unicode/utf8.acceptRanges", laid_unicode_utf8_acceptRanges), ("unicode/utf8.first", laid_unicode_utf8_first)], narrowed := true }
def MacroGrowsUptoSaid : Prop := macroGrowsUptoRow.holds Tryz.pinned (OpenSpec.upto macroGrowsSpec)

/-- 'sibyllaw26.CompTruths', WHERE WHAT IT READS IS OF BULK AT MOST 1048576: true; the input reads as it did. -/
def compTruthsUptoRow : OpenClaim := { program := "ytaoglicedcgnoaagreatdoor", sum := "28dca773bacaef2fcc0e5daecdca8950e67a68a8c4689a842c2cae55ae22228c", func := "sibyl/sibyllaw26.CompTruths", spec := "compTruths", unfollowed := true, recurses := true, named := ["internal/strconv.uint64pow10", "math/bits.deBruijn32tab", "math/bits.deBruijn64tab"], plainKeys := false, apart := false, laid := [("math/bits.deBruijn32tab", laid_math_bits_deBruijn32tab), ("math/bits.deBruijn64tab", laid_math_bits_deBruijn64tab), ("internal/strconv.uint64pow10", laid_internal_strconv_uint64pow10)], narrowed := true }
def CompTruthsUptoSaid : Prop := compTruthsUptoRow.holds Tryz.pinned (OpenSpec.upto compTruthsSpec)

/-- 'sibyllaw28.SolveKnown', WHERE WHAT IT READS IS OF BULK AT MOST 1048576: true; the input reads as it did. -/
def solveKnownUptoRow : OpenClaim := { program := "ytaoglicedcgnoaagreatdoor", sum := "28dca773bacaef2fcc0e5daecdca8950e67a68a8c4689a842c2cae55ae22228c", func := "sibyl/sibyllaw28.SolveKnown", spec := "solveKnown", unfollowed := true, recurses := true, named := ["internal/strconv.uint64pow10", "math/bits.deBruijn32tab", "math/bits.deBruijn64tab"], plainKeys := false, apart := false, laid := [("math/bits.deBruijn32tab", laid_math_bits_deBruijn32tab), ("math/bits.deBruijn64tab", laid_math_bits_deBruijn64tab), ("internal/strconv.uint64pow10", laid_internal_strconv_uint64pow10)], narrowed := true }
def SolveKnownUptoSaid : Prop := solveKnownUptoRow.holds Tryz.pinned (OpenSpec.upto solveKnownSpec)

/-- 'sibyllaw28.SolveLeast', WHERE WHAT IT READS IS OF BULK AT MOST 1048576: true; the input reads as it did. -/
def solveLeastUptoRow : OpenClaim := { program := "ytaoglicedcgnoaagreatdoor", sum := "28dca773bacaef2fcc0e5daecdca8950e67a68a8c4689a842c2cae55ae22228c", func := "sibyl/sibyllaw28.SolveLeast", spec := "solveLeast", unfollowed := true, recurses := true, named := ["internal/strconv.uint64pow10", "math/bits.deBruijn32tab", "math/bits.deBruijn64tab"], plainKeys := false, apart := false, laid := [("math/bits.deBruijn32tab", laid_math_bits_deBruijn32tab), ("math/bits.deBruijn64tab", laid_math_bits_deBruijn64tab), ("internal/strconv.uint64pow10", laid_internal_strconv_uint64pow10)], narrowed := true }
def SolveLeastUptoSaid : Prop := solveLeastUptoRow.holds Tryz.pinned (OpenSpec.upto solveLeastSpec)

end Rows
end Go.Proofs.YtaoglicedcgnoaaGreatDoor
