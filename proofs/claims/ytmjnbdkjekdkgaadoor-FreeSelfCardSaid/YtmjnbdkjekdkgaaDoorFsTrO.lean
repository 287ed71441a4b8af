/-
  free.Names: a formula's free names.
-/
import Derived.Test.YtmjnbdkjekdkgaaDoorFsTrM
namespace Go.Proofs.YtmjnbdkjekdkgaaDoor
open Go Go.RowKit
set_option linter.unusedVariables false
set_option linter.unusedSimpArgs false
set_option linter.unnecessarySimpa false
set_option maxRecDepth 100000
set_option maxHeartbeats 1000000

/-- A formula's free names, in their order, each once. -/
def freeN (x : Nd) : List (List Nat) := compN (sortN (namesN x []))
end Go.Proofs.YtmjnbdkjekdkgaaDoor
