/-
  'KindsWords', reckoned: cases 12 to 13.
-/
import Derived.Test.YtaoglicedcgnoaaGreatDoorEnv
namespace Go.Proofs.YtaoglicedcgnoaaGreatDoor
open Go
set_option maxRecDepth 1000000

theorem kindsWords_12 : callC Tryz.prog envB 10000 1000 3 [.int .i64 ((12 : Nat) : Int)] ⟨0, .nil⟩ truthC = true := by decide +kernel
theorem kindsWords_13 : callC Tryz.prog envB 10000 1000 3 [.int .i64 ((13 : Nat) : Int)] ⟨0, .nil⟩ truthC = true := by decide +kernel

end Go.Proofs.YtaoglicedcgnoaaGreatDoor
