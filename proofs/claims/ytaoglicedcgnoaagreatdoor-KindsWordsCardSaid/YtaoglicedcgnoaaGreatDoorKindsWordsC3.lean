/-
  'KindsWords', reckoned: cases 6 to 7.
-/
import Derived.Test.YtaoglicedcgnoaaGreatDoorEnv
namespace Go.Proofs.YtaoglicedcgnoaaGreatDoor
open Go
set_option maxRecDepth 1000000

theorem kindsWords_6 : callC Tryz.prog envB 10000 1000 3 [.int .i64 ((6 : Nat) : Int)] ⟨0, .nil⟩ truthC = true := by decide +kernel
theorem kindsWords_7 : callC Tryz.prog envB 10000 1000 3 [.int .i64 ((7 : Nat) : Int)] ⟨0, .nil⟩ truthC = true := by decide +kernel

end Go.Proofs.YtaoglicedcgnoaaGreatDoor
