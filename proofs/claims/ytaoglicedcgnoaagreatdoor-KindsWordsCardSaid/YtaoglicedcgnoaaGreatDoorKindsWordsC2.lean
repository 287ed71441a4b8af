/-
  'KindsWords', reckoned: cases 4 to 5.
-/
import Derived.Test.YtaoglicedcgnoaaGreatDoorEnv
namespace Go.Proofs.YtaoglicedcgnoaaGreatDoor
open Go
set_option maxRecDepth 1000000

theorem kindsWords_4 : callC Tryz.prog envB 10000 1000 3 [.int .i64 ((4 : Nat) : Int)] ⟨0, .nil⟩ truthC = true := by decide +kernel
theorem kindsWords_5 : callC Tryz.prog envB 10000 1000 3 [.int .i64 ((5 : Nat) : Int)] ⟨0, .nil⟩ truthC = true := by decide +kernel

end Go.Proofs.YtaoglicedcgnoaaGreatDoor
