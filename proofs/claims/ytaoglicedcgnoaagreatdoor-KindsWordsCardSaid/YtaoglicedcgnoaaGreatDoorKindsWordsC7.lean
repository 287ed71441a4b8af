/-
  'KindsWords', reckoned: cases 14 to 15.
-/
import Derived.Test.YtaoglicedcgnoaaGreatDoorEnv
namespace Go.Proofs.YtaoglicedcgnoaaGreatDoor
open Go
set_option maxRecDepth 1000000

theorem kindsWords_14 : callC Tryz.prog envB 10000 1000 3 [.int .i64 ((14 : Nat) : Int)] ⟨0, .nil⟩ truthC = true := by decide +kernel
theorem kindsWords_15 : callC Tryz.prog envB 10000 1000 3 [.int .i64 ((15 : Nat) : Int)] ⟨0, .nil⟩ truthC = true := by decide +kernel

end Go.Proofs.YtaoglicedcgnoaaGreatDoor
