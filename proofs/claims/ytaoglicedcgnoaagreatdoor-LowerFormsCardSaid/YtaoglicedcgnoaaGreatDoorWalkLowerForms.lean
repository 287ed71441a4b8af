/-
  The walk of 'LowerForms': it returns true; within its range it is reckoned.
-/
import Derived.Test.YtaoglicedcgnoaaGreatDoorLowerFormsC0
import Derived.Test.YtaoglicedcgnoaaGreatDoorLowerFormsC1
import Derived.Test.YtaoglicedcgnoaaGreatDoorLowerFormsC2
import Derived.Test.YtaoglicedcgnoaaGreatDoorLowerFormsC3
import Derived.Test.YtaoglicedcgnoaaGreatDoorLowerFormsC4
import Derived.Test.YtaoglicedcgnoaaGreatDoorLowerFormsC5
import Derived.Test.YtaoglicedcgnoaaGreatDoorLowerFormsC6
import Derived.Test.YtaoglicedcgnoaaGreatDoorLowerFormsC7
import Derived.Test.YtaoglicedcgnoaaGreatDoorLowerFormsC8
import Derived.Test.YtaoglicedcgnoaaGreatDoorLowerFormsC9
import Derived.Test.YtaoglicedcgnoaaGreatDoorLowerFormsC10
import Derived.Test.YtaoglicedcgnoaaGreatDoorLowerFormsC11
import Derived.Test.YtaoglicedcgnoaaGreatDoorLowerFormsC12
import Derived.Test.YtaoglicedcgnoaaGreatDoorEvR
import Derived.Test.YtaoglicedcgnoaaGreatDoorKit
import Derived.Test.YtaoglicedcgnoaaGreatDoorUtf8
namespace Go.Proofs.YtaoglicedcgnoaaGreatDoor
open Go Go.RowKit
set_option linter.unusedVariables false

theorem lowerForms_all : ∀ a : Nat, a < 13 → callC Tryz.prog envK10 10000 1000 4 [.int .i64 ((a : Nat) : Int)] ⟨0, .nil⟩ truthC = true
  | 0, _ => lowerForms_0
  | 1, _ => lowerForms_1
  | 2, _ => lowerForms_2
  | 3, _ => lowerForms_3
  | 4, _ => lowerForms_4
  | 5, _ => lowerForms_5
  | 6, _ => lowerForms_6
  | 7, _ => lowerForms_7
  | 8, _ => lowerForms_8
  | 9, _ => lowerForms_9
  | 10, _ => lowerForms_10
  | 11, _ => lowerForms_11
  | 12, _ => lowerForms_12
  | a + 13, h => absurd h (by omega)

theorem walk_lowerForms (m : Int) (w : World) (hm : -9223372036854775808 ≤ m ∧ m ≤ 9223372036854775807) (hT : Tabs w) :
    Calls Tryz.prog 4 #[.int .i64 m] w fun e w' => e = .returned (.bool true) ∧ Below w.heap.size w w' := by
  by_cases h : 0 ≤ m ∧ m < 13
  · obtain ⟨j, rfl⟩ : ∃ j : Nat, m = j := ⟨m.toNat, by omega⟩
    exact swift_true (fun _ => rfl) envK10_ok mixed (by simp [WFL, WF]) (lowerForms_all j (by omega)) w
  · go_enter Tryz.func4, Tryz.ntmps4
    go_wp2
    all_goals go_ret
    all_goals first
      | exact ⟨rfl, Below.refl _ _⟩
      | exact ⟨rfl, (Below.refl _ _).alloc (Nat.le_refl _) _⟩
      | exact ⟨rfl, ((Below.refl _ _).alloc (Nat.le_refl _) _).alloc ((Below.refl _ _).alloc (Nat.le_refl _) _).size _⟩

end Go.Proofs.YtaoglicedcgnoaaGreatDoor
