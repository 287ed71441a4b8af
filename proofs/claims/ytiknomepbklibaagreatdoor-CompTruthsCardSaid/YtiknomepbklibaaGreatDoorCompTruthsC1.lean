/-
  'CompTruths', reckoned: cases 1 to 1.
-/
import Derived.Test.YtiknomepbklibaaGreatDoorKnown26
namespace Go.Proofs.YtiknomepbklibaaGreatDoor
open Go
set_option maxRecDepth 1000000

theorem compTruths_1 : callC Tryz.prog envK26 10000 1000 5 [.int .i64 ((1 : Nat) : Int)] ⟨0, .nil⟩ truthC = true := by decide +kernel

end Go.Proofs.YtiknomepbklibaaGreatDoor
