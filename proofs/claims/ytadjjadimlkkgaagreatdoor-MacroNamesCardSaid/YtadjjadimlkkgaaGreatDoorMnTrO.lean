/-
  free.Names: a formula's free names.
-/
import Derived.Test.YtadjjadimlkkgaaGreatDoorMnTrM
namespace Go.Proofs.YtadjjadimlkkgaaGreatDoor
open Go Go.RowKit
set_option maxHeartbeats 8000000
set_option linter.unusedVariables false
set_option linter.unusedSimpArgs false
set_option linter.unnecessarySimpa false
set_option maxRecDepth 100000

def Jk(x:Nd):List (List Nat):=Eb (WZ (Qx x []))
end Go.Proofs.YtadjjadimlkkgaaGreatDoor
