/-
  'KindsWords', reckoned: cases 2 to 3.
-/
import Derived.Test.YtaoglicedcgnoaaGreatDoorEnv
namespace Go.Proofs.YtaoglicedcgnoaaGreatDoor
open Go
set_option maxRecDepth 1000000

theorem kindsWords_2 : callC Tryz.prog envB 10000 1000 3 [.int .i64 ((2 : Nat) : Int)] ⟨0, .nil⟩ truthC = true := by decide +kernel
theorem kindsWords_3 : callC Tryz.prog envB 10000 1000 3 [.int .i64 ((3 : Nat) : Int)] ⟨0, .nil⟩ truthC = true := by decide +kernel

end Go.Proofs.YtaoglicedcgnoaaGreatDoor
