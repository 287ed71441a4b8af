/-
  The walk of 'MacroCaught': it returns true; within its range it is reckoned.
-/
import Derived.Test.YtaoglicedcgnoaaGreatDoorMacroCaughtC0
import Derived.Test.YtaoglicedcgnoaaGreatDoorMacroCaughtC1
import Derived.Test.YtaoglicedcgnoaaGreatDoorMacroCaughtC2
import Derived.Test.YtaoglicedcgnoaaGreatDoorMacroCaughtC3
import Derived.Test.YtaoglicedcgnoaaGreatDoorMacroCaughtC4
import Derived.Test.YtaoglicedcgnoaaGreatDoorEvR
import Derived.Test.YtaoglicedcgnoaaGreatDoorKit
import Derived.Test.YtaoglicedcgnoaaGreatDoorUtf8
namespace Go.Proofs.YtaoglicedcgnoaaGreatDoor
open Go Go.RowKit
set_option linter.unusedVariables false

theorem macroCaught_all : ∀ a : Nat, a < 5 → callC Tryz.prog envB 10000 1000 6 [.int .i64 ((a : Nat) : Int)] ⟨0, .nil⟩ truthC = true
  | 0, _ => macroCaught_0
  | 1, _ => macroCaught_1
  | 2, _ => macroCaught_2
  | 3, _ => macroCaught_3
  | 4, _ => macroCaught_4
  | a + 5, h => absurd h (by omega)

theorem walk_macroCaught (m : Int) (w : World) (hm : -9223372036854775808 ≤ m ∧ m ≤ 9223372036854775807) (hT : Tabs w) :
    Calls Tryz.prog 6 #[.int .i64 m] w fun e w' => e = .returned (.bool true) ∧ Below w.heap.size w w' := by
  by_cases h : 0 ≤ m ∧ m < 5
  · obtain ⟨j, rfl⟩ : ∃ j : Nat, m = j := ⟨m.toNat, by omega⟩
    exact swift_true (fun _ => rfl) envB_ok mixed (by simp [WFL, WF]) (macroCaught_all j (by omega)) w
  · go_enter Tryz.func6, Tryz.ntmps6
    go_wp2
    all_goals go_ret
    all_goals first
      | exact ⟨rfl, Below.refl _ _⟩
      | exact ⟨rfl, (Below.refl _ _).alloc (Nat.le_refl _) _⟩
      | exact ⟨rfl, ((Below.refl _ _).alloc (Nat.le_refl _) _).alloc ((Below.refl _ _).alloc (Nat.le_refl _) _).size _⟩

end Go.Proofs.YtaoglicedcgnoaaGreatDoor
