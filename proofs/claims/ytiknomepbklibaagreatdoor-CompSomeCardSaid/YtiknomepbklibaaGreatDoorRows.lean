/-
  NARROWER THAN 'FOR EVERY INPUT', by the rows' own cells (each row's printed sentence says how): ProjOr: laid · CompRules: loops, laid · CompTruths: laid · CompFuel: loops, laid · CompHolds: loops, laid · CompEnds: loops, laid · CompSome: loops, laid.
  DERIVED. THE GIVEN ROWS OF THIS SEAT. 7 by the template 'for every input the law returns true; each argument reads behind the call as it read before'; 0 by the template 'total and deterministic' (their statements: YtiknomepbklibaaGreatDoorTotals.lean).
  GIVEN WITH THE SEED: the statements are not yours to turn. If you find one false, say at which input.
  Laid BY PROGRAM, IN A SANDBOX (cutbox-rows.mjs): the forced cells as the released guide's own fill.sh prints them over the translation 2056c0d467ab3d57… (all of the seat's roots in one cut). By AI agents, Wed Nov 11 2026. No macro, syntax, notation, axiom, sorry.
-/
import Derived.Test.YtiknomepbklibaaGreatDoorChecked
import GoSem.Claim
import GoSem.ClaimJoined
import GoSem.ClaimMapViews
import Derived.JoinedTies
import Derived.KernelRfl
namespace Go.Proofs.YtiknomepbklibaaGreatDoor
/- THE CELL 'sum', in the pinned program and in every row, IS THE sha256 OF THE DUMP (.gsa) THAT YtiknomepbklibaaGreatDoorProg.lean LOADS. Nothing in Lean hashes anything: it is a label: what it is worth is what the hold of that sum in a sandbox is worth. -/
noncomputable def Tryz.pinned : Pinned := { name := "ytiknomepbklibaagreatdoor", sum := "2056c0d467ab3d57f17eb0d9d003e5f5eab908c536eccf37beb5b7c08d9a622d", checked := Tryz.checked }
namespace Rows
def none {H : Type} : Left H := { results := [], args := [] }

/- WHAT THE LISTED PACKAGE-LEVEL VARIABLES READ AS WHEN THE CALL BEGINS. Each datum BY PROGRAM (the guide's laid-datum.mjs) off the statement by which the dump's own 'gosem.cut.vars' lays the variable. In a bare row this is a premise. The card (YtiknomepbklibaaGreatDoorCards.lean) ties it to the program's text. -/
def laid_math_bits_deBruijn32tab {H : Type} : DataW H := .agg [.lit (.int .u8 0), .lit (.int .u8 1), .lit (.int .u8 28), .lit (.int .u8 2), .lit (.int .u8 29), .lit (.int .u8 14), .lit (.int .u8 24), .lit (.int .u8 3), .lit (.int .u8 30), .lit (.int .u8 22), .lit (.int .u8 20), .lit (.int .u8 15), .lit (.int .u8 25), .lit (.int .u8 17), .lit (.int .u8 4), .lit (.int .u8 8), .lit (.int .u8 31), .lit (.int .u8 27), .lit (.int .u8 13), .lit (.int .u8 23), .lit (.int .u8 21), .lit (.int .u8 19), .lit (.int .u8 16), .lit (.int .u8 7), .lit (.int .u8 26), .lit (.int .u8 12), .lit (.int .u8 18), .lit (.int .u8 6), .lit (.int .u8 11), .lit (.int .u8 5), .lit (.int .u8 10), .lit (.int .u8 9)]
def laid_math_bits_deBruijn64tab {H : Type} : DataW H := .agg [.lit (.int .u8 0), .lit (.int .u8 1), .lit (.int .u8 56), .lit (.int .u8 2), .lit (.int .u8 57), .lit (.int .u8 49), .lit (.int .u8 28), .lit (.int .u8 3), .lit (.int .u8 61), .lit (.int .u8 58), .lit (.int .u8 42), .lit (.int .u8 50), .lit (.int .u8 38), .lit (.int .u8 29), .lit (.int .u8 17), .lit (.int .u8 4), .lit (.int .u8 62), .lit (.int .u8 47), .lit (.int .u8 59), .lit (.int .u8 36), .lit (.int .u8 45), .lit (.int .u8 43), .lit (.int .u8 51), .lit (.int .u8 22), .lit (.int .u8 53), .lit (.int .u8 39), .lit (.int .u8 33), .lit (.int .u8 30), .lit (.int .u8 24), .lit (.int .u8 18), .lit (.int .u8 12), .lit (.int .u8 5), .lit (.int .u8 63), .lit (.int .u8 55), .lit (.int .u8 48), .lit (.int .u8 27), .lit (.int .u8 60), .lit (.int .u8 41), .lit (.int .u8 37), .lit (.int .u8 16), .lit (.int .u8 46), .lit (.int .u8 35), .lit (.int .u8 44), .lit (.int .u8 21), .lit (.int .u8 52), .lit (.int .u8 32), .lit (.int .u8 23), .lit (.int .u8 11), .lit (.int .u8 54), .lit (.int .u8 26), .lit (.int .u8 40), .lit (.int .u8 15), .lit (.int .u8 34), .lit (.int .u8 20), .lit (.int .u8 31), .lit (.int .u8 10), .lit (.int .u8 25), .lit (.int .u8 14), .lit (.int .u8 19), .lit (.int .u8 9), .lit (.int .u8 13), .lit (.int .u8 8), .lit (.int .u8 7), .lit (.int .u8 6)]
def laid_internal_strconv_uint64pow10 {H : Type} : DataW H := .agg [.lit (.int .u64 1), .lit (.int .u64 10), .lit (.int .u64 100), .lit (.int .u64 1000), .lit (.int .u64 10000), .lit (.int .u64 100000), .lit (.int .u64 1000000), .lit (.int .u64 10000000), .lit (.int .u64 100000000), .lit (.int .u64 1000000000), .lit (.int .u64 10000000000), .lit (.int .u64 100000000000), .lit (.int .u64 1000000000000), .lit (.int .u64 10000000000000), .lit (.int .u64 100000000000000), .lit (.int .u64 1000000000000000), .lit (.int .u64 10000000000000000), .lit (.int .u64 100000000000000000), .lit (.int .u64 1000000000000000000), .lit (.int .u64 10000000000000000000)]

/-- 'sibyllaw22.ProjOr': WHATEVER THE INPUT: true; the input reads as it did. -/
def projOrSpec : ChangeSpec := { name := "projOr", fn := fun _ => fun
  | [d1, d2, d3] => { results := [.lit (.bool true)], args := [d1, d2, d3] }
  | _ => none }
def projOrRow : OpenClaim := { program := "ytiknomepbklibaagreatdoor", sum := "2056c0d467ab3d57f17eb0d9d003e5f5eab908c536eccf37beb5b7c08d9a622d", func := "sibyl/sibyllaw22.ProjOr", spec := "projOr", unfollowed := true, recurses := true, named := ["internal/strconv.uint64pow10", "math/bits.deBruijn32tab", "math/bits.deBruijn64tab"], plainKeys := false, apart := false, laid := [("math/bits.deBruijn32tab", laid_math_bits_deBruijn32tab), ("math/bits.deBruijn64tab", laid_math_bits_deBruijn64tab), ("internal/strconv.uint64pow10", laid_internal_strconv_uint64pow10)] }
def ProjOrSaid : Prop := projOrRow.holds Tryz.pinned (OpenSpec.ofChange projOrSpec)

/-- ITS FALSE NEIGHBOUR: 'it returns false'. Refute it at one input. -/
def projOrWrong : ChangeSpec := { name := "projOr", fn := fun _ => fun
  | [d1, d2, d3] => { results := [.lit (.bool false)], args := [d1, d2, d3] }
  | _ => none }
def ProjOrWrongFalsely : Prop := projOrRow.holds Tryz.pinned (OpenSpec.ofChange projOrWrong)

/-- 'sibyllaw26.CompRules': WHATEVER THE INPUT: true; the input reads as it did. -/
def compRulesSpec : ChangeSpec := { name := "compRules", fn := fun _ => fun
  | [d1, d2, d3] => { results := [.lit (.bool true)], args := [d1, d2, d3] }
  | _ => none }
def compRulesRow : OpenClaim := { program := "ytiknomepbklibaagreatdoor", sum := "2056c0d467ab3d57f17eb0d9d003e5f5eab908c536eccf37beb5b7c08d9a622d", func := "sibyl/sibyllaw26.CompRules", spec := "compRules", unfollowed := true, recurses := true, named := ["internal/strconv.uint64pow10", "math/bits.deBruijn32tab", "math/bits.deBruijn64tab"], loops := true, plainKeys := false, apart := false, laid := [("math/bits.deBruijn32tab", laid_math_bits_deBruijn32tab), ("math/bits.deBruijn64tab", laid_math_bits_deBruijn64tab), ("internal/strconv.uint64pow10", laid_internal_strconv_uint64pow10)] }
def CompRulesSaid : Prop := compRulesRow.holds Tryz.pinned (OpenSpec.ofChange compRulesSpec)

/-- ITS FALSE NEIGHBOUR: 'it returns false'. Refute it at one input. -/
def compRulesWrong : ChangeSpec := { name := "compRules", fn := fun _ => fun
  | [d1, d2, d3] => { results := [.lit (.bool false)], args := [d1, d2, d3] }
  | _ => none }
def CompRulesWrongFalsely : Prop := compRulesRow.holds Tryz.pinned (OpenSpec.ofChange compRulesWrong)

/-- 'sibyllaw26.CompTruths': WHATEVER THE INPUT: true; the input reads as it did. -/
def compTruthsSpec : ChangeSpec := { name := "compTruths", fn := fun _ => fun
  | [d] => { results := [.lit (.bool true)], args := [d] }
  | _ => none }
def compTruthsRow : OpenClaim := { program := "ytiknomepbklibaagreatdoor", sum := "2056c0d467ab3d57f17eb0d9d003e5f5eab908c536eccf37beb5b7c08d9a622d", func := "sibyl/sibyllaw26.CompTruths", spec := "compTruths", unfollowed := true, recurses := true, named := ["internal/strconv.uint64pow10", "math/bits.deBruijn32tab", "math/bits.deBruijn64tab"], plainKeys := false, apart := false, laid := [("math/bits.deBruijn32tab", laid_math_bits_deBruijn32tab), ("math/bits.deBruijn64tab", laid_math_bits_deBruijn64tab), ("internal/strconv.uint64pow10", laid_internal_strconv_uint64pow10)] }
def CompTruthsSaid : Prop := compTruthsRow.holds Tryz.pinned (OpenSpec.ofChange compTruthsSpec)

/-- ITS FALSE NEIGHBOUR: 'it returns false'. Refute it at one input. -/
def compTruthsWrong : ChangeSpec := { name := "compTruths", fn := fun _ => fun
  | [d] => { results := [.lit (.bool false)], args := [d] }
  | _ => none }
def CompTruthsWrongFalsely : Prop := compTruthsRow.holds Tryz.pinned (OpenSpec.ofChange compTruthsWrong)

/-- 'sibyllaw26.CompFuel': WHATEVER THE INPUT: true; the input reads as it did. -/
def compFuelSpec : ChangeSpec := { name := "compFuel", fn := fun _ => fun
  | [d1, d2] => { results := [.lit (.bool true)], args := [d1, d2] }
  | _ => none }
def compFuelRow : OpenClaim := { program := "ytiknomepbklibaagreatdoor", sum := "2056c0d467ab3d57f17eb0d9d003e5f5eab908c536eccf37beb5b7c08d9a622d", func := "sibyl/sibyllaw26.CompFuel", spec := "compFuel", unfollowed := true, recurses := true, named := ["internal/strconv.uint64pow10", "math/bits.deBruijn32tab", "math/bits.deBruijn64tab"], loops := true, plainKeys := false, apart := false, laid := [("math/bits.deBruijn32tab", laid_math_bits_deBruijn32tab), ("math/bits.deBruijn64tab", laid_math_bits_deBruijn64tab), ("internal/strconv.uint64pow10", laid_internal_strconv_uint64pow10)] }
def CompFuelSaid : Prop := compFuelRow.holds Tryz.pinned (OpenSpec.ofChange compFuelSpec)

/-- ITS FALSE NEIGHBOUR: 'it returns false'. Refute it at one input. -/
def compFuelWrong : ChangeSpec := { name := "compFuel", fn := fun _ => fun
  | [d1, d2] => { results := [.lit (.bool false)], args := [d1, d2] }
  | _ => none }
def CompFuelWrongFalsely : Prop := compFuelRow.holds Tryz.pinned (OpenSpec.ofChange compFuelWrong)

/-- 'sibyllaw26.CompHolds': WHATEVER THE INPUT: true; the input reads as it did. -/
def compHoldsSpec : ChangeSpec := { name := "compHolds", fn := fun _ => fun
  | [d1, d2, d3] => { results := [.lit (.bool true)], args := [d1, d2, d3] }
  | _ => none }
def compHoldsRow : OpenClaim := { program := "ytiknomepbklibaagreatdoor", sum := "2056c0d467ab3d57f17eb0d9d003e5f5eab908c536eccf37beb5b7c08d9a622d", func := "sibyl/sibyllaw26.CompHolds", spec := "compHolds", unfollowed := true, recurses := true, named := ["internal/strconv.uint64pow10", "math/bits.deBruijn32tab", "math/bits.deBruijn64tab"], loops := true, plainKeys := false, apart := false, laid := [("math/bits.deBruijn32tab", laid_math_bits_deBruijn32tab), ("math/bits.deBruijn64tab", laid_math_bits_deBruijn64tab), ("internal/strconv.uint64pow10", laid_internal_strconv_uint64pow10)] }
def CompHoldsSaid : Prop := compHoldsRow.holds Tryz.pinned (OpenSpec.ofChange compHoldsSpec)

/-- ITS FALSE NEIGHBOUR: 'it returns false'. Refute it at one input. -/
def compHoldsWrong : ChangeSpec := { name := "compHolds", fn := fun _ => fun
  | [d1, d2, d3] => { results := [.lit (.bool false)], args := [d1, d2, d3] }
  | _ => none }
def CompHoldsWrongFalsely : Prop := compHoldsRow.holds Tryz.pinned (OpenSpec.ofChange compHoldsWrong)

/-- 'sibyllaw26.CompEnds': WHATEVER THE INPUT: true; the input reads as it did. -/
def compEndsSpec : ChangeSpec := { name := "compEnds", fn := fun _ => fun
  | [d1, d2, d3] => { results := [.lit (.bool true)], args := [d1, d2, d3] }
  | _ => none }
def compEndsRow : OpenClaim := { program := "ytiknomepbklibaagreatdoor", sum := "2056c0d467ab3d57f17eb0d9d003e5f5eab908c536eccf37beb5b7c08d9a622d", func := "sibyl/sibyllaw26.CompEnds", spec := "compEnds", unfollowed := true, recurses := true, named := ["internal/strconv.uint64pow10", "math/bits.deBruijn32tab", "math/bits.deBruijn64tab"], loops := true, plainKeys := false, apart := false, laid := [("math/bits.deBruijn32tab", laid_math_bits_deBruijn32tab), ("math/bits.deBruijn64tab", laid_math_bits_deBruijn64tab), ("internal/strconv.uint64pow10", laid_internal_strconv_uint64pow10)] }
def CompEndsSaid : Prop := compEndsRow.holds Tryz.pinned (OpenSpec.ofChange compEndsSpec)

/-- ITS FALSE NEIGHBOUR: 'it returns false'. Refute it at one input. -/
def compEndsWrong : ChangeSpec := { name := "compEnds", fn := fun _ => fun
  | [d1, d2, d3] => { results := [.lit (.bool false)], args := [d1, d2, d3] }
  | _ => none }
def CompEndsWrongFalsely : Prop := compEndsRow.holds Tryz.pinned (OpenSpec.ofChange compEndsWrong)

/-- 'sibyllaw26.CompSome': WHATEVER THE INPUT: true; the input reads as it did. -/
def compSomeSpec : ChangeSpec := { name := "compSome", fn := fun _ => fun
  | [d1, d2, d3, d4] => { results := [.lit (.bool true)], args := [d1, d2, d3, d4] }
  | _ => none }
def compSomeRow : OpenClaim := { program := "ytiknomepbklibaagreatdoor", sum := "2056c0d467ab3d57f17eb0d9d003e5f5eab908c536eccf37beb5b7c08d9a622d", func := "sibyl/sibyllaw26.CompSome", spec := "compSome", unfollowed := true, recurses := true, named := ["internal/strconv.uint64pow10", "math/bits.deBruijn32tab", "math/bits.deBruijn64tab"], loops := true, plainKeys := false, apart := false, laid := [("math/bits.deBruijn32tab", laid_math_bits_deBruijn32tab), ("math/bits.deBruijn64tab", laid_math_bits_deBruijn64tab), ("internal/strconv.uint64pow10", laid_internal_strconv_uint64pow10)] }
def CompSomeSaid : Prop := compSomeRow.holds Tryz.pinned (OpenSpec.ofChange compSomeSpec)

/-- ITS FALSE NEIGHBOUR: 'it returns false'. Refute it at one input. -/
def compSomeWrong : ChangeSpec := { name := "compSome", fn := fun _ => fun
  | [d1, d2, d3, d4] => { results := [.lit (.bool false)], args := [d1, d2, d3, d4] }
  | _ => none }
def CompSomeWrongFalsely : Prop := compSomeRow.holds Tryz.pinned (OpenSpec.ofChange compSomeWrong)

/- THE SECOND FORM. 'bulk': how many values and letters a reading holds, each counted each time it is reached (what is shared counts as often as it is met; a slice's spare places count too). A statement '..UptoSaid' is the law's where the arguments, and the package variables that the reading takes, are together of bulk at most 1048576: NARROWER than '..Said'. Prove '..Said' where nothing that the law and all that it calls make is longer than what came in: it says more and counts as full. Else prove '..UptoSaid'. A law counts once. -/
mutual
def uptoBulk {H : Type} : DataW H → Nat
  | .lit (.string bytes) => bytes.length + 1
  | .lit _ => 1
  | .nil => 1
  | .ptr d => uptoBulk d + 1
  | .slice elems spare => uptoBulkAll elems + uptoBulkAll spare + 1
  | .agg parts => uptoBulkAll parts + 1
  | .iface _ d => uptoBulk d + 1
  | .map entries => uptoBulkEntries entries + 1
  | .held _ => 1
def uptoBulkAll {H : Type} : List (DataW H) → Nat
  | [] => 0
  | d :: r => uptoBulk d + uptoBulkAll r
def uptoBulkEntries {H : Type} : List (Lit × DataW H) → Nat
  | [] => 0
  | x :: r => uptoBulkEntry x + uptoBulkEntries r
def uptoBulkEntry {H : Type} : Lit × DataW H → Nat
  | (.string bytes, d) => bytes.length + uptoBulk d + 1
  | (_, d) => uptoBulk d + 1
 end
def uptoSmall : (H : Type) → List (DataW H) → Bool := fun _ ds => decide (uptoBulkAll ds ≤ 1048576)
def OpenSpec.upto (s : _root_.Go.ChangeSpec) : _root_.Go.OpenSpec := { _root_.Go.OpenSpec.ofChange s with cond := some uptoSmall }

/-- 'sibyllaw22.ProjOr', WHERE WHAT IT READS IS OF BULK AT MOST 1048576: true; the input reads as it did. -/
def projOrUptoRow : OpenClaim := { program := "ytiknomepbklibaagreatdoor", sum := "2056c0d467ab3d57f17eb0d9d003e5f5eab908c536eccf37beb5b7c08d9a622d", func := "sibyl/sibyllaw22.ProjOr", spec := "projOr", unfollowed := true, recurses := true, named := ["internal/strconv.uint64pow10", "math/bits.deBruijn32tab", "math/bits.deBruijn64tab"], plainKeys := false, apart := false, laid := [("math/bits.deBruijn32tab", laid_math_bits_deBruijn32tab), ("math/bits.deBruijn64tab", laid_math_bits_deBruijn64tab), ("internal/strconv.uint64pow10", laid_internal_strconv_uint64pow10)], narrowed := true }
def ProjOrUptoSaid : Prop := projOrUptoRow.holds Tryz.pinned (OpenSpec.upto projOrSpec)

/-- 'sibyllaw26.CompRules', WHERE WHAT IT READS IS OF BULK AT MOST 1048576: true; the input reads as it did. -/
def compRulesUptoRow : OpenClaim := { program := "ytiknomepbklibaagreatdoor", sum := "2056c0d467ab3d57f17eb0d9d003e5f5eab908c536eccf37beb5b7c08d9a622d", func := "sibyl/sibyllaw26.CompRules", spec := "compRules", unfollowed := true, recurses := true, named := ["internal/strconv.uint64pow10", "math/bits.deBruijn32tab", "math/bits.deBruijn64tab"], loops := true, plainKeys := false, apart := false, laid := [("math/bits.deBruijn32tab", laid_math_bits_deBruijn32tab), ("math/bits.deBruijn64tab", laid_math_bits_deBruijn64tab), ("internal/strconv.uint64pow10", laid_internal_strconv_uint64pow10)], narrowed := true }
def CompRulesUptoSaid : Prop := compRulesUptoRow.holds Tryz.pinned (OpenSpec.upto compRulesSpec)

/-- 'sibyllaw26.CompTruths', WHERE WHAT IT READS IS OF BULK AT MOST 1048576: true; the input reads as it did. -/
def compTruthsUptoRow : OpenClaim := { program := "ytiknomepbklibaagreatdoor", sum := "2056c0d467ab3d57f17eb0d9d003e5f5eab908c536eccf37beb5b7c08d9a622d", func := "sibyl/sibyllaw26.CompTruths", spec := "compTruths", unfollowed := true, recurses := true, named := ["internal/strconv.uint64pow10", "math/bits.deBruijn32tab", "math/bits.deBruijn64tab"], plainKeys := false, apart := false, laid := [("math/bits.deBruijn32tab", laid_math_bits_deBruijn32tab), ("math/bits.deBruijn64tab", laid_math_bits_deBruijn64tab), ("internal/strconv.uint64pow10", laid_internal_strconv_uint64pow10)], narrowed := true }
def CompTruthsUptoSaid : Prop := compTruthsUptoRow.holds Tryz.pinned (OpenSpec.upto compTruthsSpec)

/-- 'sibyllaw26.CompFuel', WHERE WHAT IT READS IS OF BULK AT MOST 1048576: true; the input reads as it did. -/
def compFuelUptoRow : OpenClaim := { program := "ytiknomepbklibaagreatdoor", sum := "2056c0d467ab3d57f17eb0d9d003e5f5eab908c536eccf37beb5b7c08d9a622d", func := "sibyl/sibyllaw26.CompFuel", spec := "compFuel", unfollowed := true, recurses := true, named := ["internal/strconv.uint64pow10", "math/bits.deBruijn32tab", "math/bits.deBruijn64tab"], loops := true, plainKeys := false, apart := false, laid := [("math/bits.deBruijn32tab", laid_math_bits_deBruijn32tab), ("math/bits.deBruijn64tab", laid_math_bits_deBruijn64tab), ("internal/strconv.uint64pow10", laid_internal_strconv_uint64pow10)], narrowed := true }
def CompFuelUptoSaid : Prop := compFuelUptoRow.holds Tryz.pinned (OpenSpec.upto compFuelSpec)

/-- 'sibyllaw26.CompHolds', WHERE WHAT IT READS IS OF BULK AT MOST 1048576: true; the input reads as it did. -/
def compHoldsUptoRow : OpenClaim := { program := "ytiknomepbklibaagreatdoor", sum := "2056c0d467ab3d57f17eb0d9d003e5f5eab908c536eccf37beb5b7c08d9a622d", func := "sibyl/sibyllaw26.CompHolds", spec := "compHolds", unfollowed := true, recurses := true, named := ["internal/strconv.uint64pow10", "math/bits.deBruijn32tab", "math/bits.deBruijn64tab"], loops := true, plainKeys := false, apart := false, laid := [("math/bits.deBruijn32tab", laid_math_bits_deBruijn32tab), ("math/bits.deBruijn64tab", laid_math_bits_deBruijn64tab), ("internal/strconv.uint64pow10", laid_internal_strconv_uint64pow10)], narrowed := true }
def CompHoldsUptoSaid : Prop := compHoldsUptoRow.holds Tryz.pinned (OpenSpec.upto compHoldsSpec)

/-- 'sibyllaw26.CompEnds', WHERE WHAT IT READS IS OF BULK AT MOST 1048576: true; the input reads as it did. -/
def compEndsUptoRow : OpenClaim := { program := "ytiknomepbklibaagreatdoor", sum := "2056c0d467ab3d57f17eb0d9d003e5f5eab908c536eccf37beb5b7c08d9a622d", func := "sibyl/sibyllaw26.CompEnds", spec := "compEnds", unfollowed := true, recurses := true, named := ["internal/strconv.uint64pow10", "math/bits.deBruijn32tab", "math/bits.deBruijn64tab"], loops := true, plainKeys := false, apart := false, laid := [("math/bits.deBruijn32tab", laid_math_bits_deBruijn32tab), ("math/bits.deBruijn64tab", laid_math_bits_deBruijn64tab), ("internal/strconv.uint64pow10", laid_internal_strconv_uint64pow10)], narrowed := true }
def CompEndsUptoSaid : Prop := compEndsUptoRow.holds Tryz.pinned (OpenSpec.upto compEndsSpec)

/-- 'sibyllaw26.CompSome', WHERE WHAT IT READS IS OF BULK AT MOST 1048576: true; the input reads as it did. -/
def compSomeUptoRow : OpenClaim := { program := "ytiknomepbklibaagreatdoor", sum := "2056c0d467ab3d57f17eb0d9d003e5f5eab908c536eccf37beb5b7c08d9a622d", func := "sibyl/sibyllaw26.CompSome", spec := "compSome", unfollowed := true, recurses := true, named := ["internal/strconv.uint64pow10", "math/bits.deBruijn32tab", "math/bits.deBruijn64tab"], loops := true, plainKeys := false, apart := false, laid := [("math/bits.deBruijn32tab", laid_math_bits_deBruijn32tab), ("math/bits.deBruijn64tab", laid_math_bits_deBruijn64tab), ("internal/strconv.uint64pow10", laid_internal_strconv_uint64pow10)], narrowed := true }
def CompSomeUptoSaid : Prop := compSomeUptoRow.holds Tryz.pinned (OpenSpec.upto compSomeSpec)

end Rows
end Go.Proofs.YtiknomepbklibaaGreatDoor
