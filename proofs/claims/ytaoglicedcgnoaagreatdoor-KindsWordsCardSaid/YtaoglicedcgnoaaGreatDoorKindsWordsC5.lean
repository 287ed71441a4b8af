/-
  'KindsWords', reckoned: cases 10 to 11.
-/
import Derived.Test.YtaoglicedcgnoaaGreatDoorEnv
namespace Go.Proofs.YtaoglicedcgnoaaGreatDoor
open Go
set_option maxRecDepth 1000000

theorem kindsWords_10 : callC Tryz.prog envB 10000 1000 3 [.int .i64 ((10 : Nat) : Int)] ⟨0, .nil⟩ truthC = true := by decide +kernel
theorem kindsWords_11 : callC Tryz.prog envB 10000 1000 3 [.int .i64 ((11 : Nat) : Int)] ⟨0, .nil⟩ truthC = true := by decide +kernel

end Go.Proofs.YtaoglicedcgnoaaGreatDoor
