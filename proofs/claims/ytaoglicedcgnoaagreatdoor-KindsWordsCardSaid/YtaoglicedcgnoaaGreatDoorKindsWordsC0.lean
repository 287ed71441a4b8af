/-
  'KindsWords', reckoned: cases 0 to 1.
-/
import Derived.Test.YtaoglicedcgnoaaGreatDoorEnv
namespace Go.Proofs.YtaoglicedcgnoaaGreatDoor
open Go
set_option maxRecDepth 1000000

theorem kindsWords_0 : callC Tryz.prog envB 10000 1000 3 [.int .i64 ((0 : Nat) : Int)] ⟨0, .nil⟩ truthC = true := by decide +kernel
theorem kindsWords_1 : callC Tryz.prog envB 10000 1000 3 [.int .i64 ((1 : Nat) : Int)] ⟨0, .nil⟩ truthC = true := by decide +kernel

end Go.Proofs.YtaoglicedcgnoaaGreatDoor
