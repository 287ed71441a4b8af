/-
  'KindsWords', reckoned: cases 16 to 17.
-/
import Derived.Test.YtaoglicedcgnoaaGreatDoorEnv
namespace Go.Proofs.YtaoglicedcgnoaaGreatDoor
open Go
set_option maxRecDepth 1000000

theorem kindsWords_16 : callC Tryz.prog envB 10000 1000 3 [.int .i64 ((16 : Nat) : Int)] ⟨0, .nil⟩ truthC = true := by decide +kernel
theorem kindsWords_17 : callC Tryz.prog envB 10000 1000 3 [.int .i64 ((17 : Nat) : Int)] ⟨0, .nil⟩ truthC = true := by decide +kernel

end Go.Proofs.YtaoglicedcgnoaaGreatDoor
