/-
  The walk of 'KindsWords': it returns true; within its range it is reckoned.
-/
import Derived.Test.YtaoglicedcgnoaaGreatDoorKindsWordsC0
import Derived.Test.YtaoglicedcgnoaaGreatDoorKindsWordsC1
import Derived.Test.YtaoglicedcgnoaaGreatDoorKindsWordsC2
import Derived.Test.YtaoglicedcgnoaaGreatDoorKindsWordsC3
import Derived.Test.YtaoglicedcgnoaaGreatDoorKindsWordsC4
import Derived.Test.YtaoglicedcgnoaaGreatDoorKindsWordsC5
import Derived.Test.YtaoglicedcgnoaaGreatDoorKindsWordsC6
import Derived.Test.YtaoglicedcgnoaaGreatDoorKindsWordsC7
import Derived.Test.YtaoglicedcgnoaaGreatDoorKindsWordsC8
import Derived.Test.YtaoglicedcgnoaaGreatDoorKindsWordsC9
import Derived.Test.YtaoglicedcgnoaaGreatDoorEvR
import Derived.Test.YtaoglicedcgnoaaGreatDoorKit
import Derived.Test.YtaoglicedcgnoaaGreatDoorUtf8
namespace Go.Proofs.YtaoglicedcgnoaaGreatDoor
open Go Go.RowKit
set_option linter.unusedVariables false

theorem kindsWords_all : ∀ a : Nat, a < 19 → callC Tryz.prog envB 10000 1000 3 [.int .i64 ((a : Nat) : Int)] ⟨0, .nil⟩ truthC = true
  | 0, _ => kindsWords_0
  | 1, _ => kindsWords_1
  | 2, _ => kindsWords_2
  | 3, _ => kindsWords_3
  | 4, _ => kindsWords_4
  | 5, _ => kindsWords_5
  | 6, _ => kindsWords_6
  | 7, _ => kindsWords_7
  | 8, _ => kindsWords_8
  | 9, _ => kindsWords_9
  | 10, _ => kindsWords_10
  | 11, _ => kindsWords_11
  | 12, _ => kindsWords_12
  | 13, _ => kindsWords_13
  | 14, _ => kindsWords_14
  | 15, _ => kindsWords_15
  | 16, _ => kindsWords_16
  | 17, _ => kindsWords_17
  | 18, _ => kindsWords_18
  | a + 19, h => absurd h (by omega)

theorem walk_kindsWords (m : Int) (w : World) (hm : -9223372036854775808 ≤ m ∧ m ≤ 9223372036854775807) (hT : Tabs w) :
    Calls Tryz.prog 3 #[.int .i64 m] w fun e w' => e = .returned (.bool true) ∧ Below w.heap.size w w' := by
  by_cases h : 0 ≤ m ∧ m < 19
  · obtain ⟨j, rfl⟩ : ∃ j : Nat, m = j := ⟨m.toNat, by omega⟩
    exact swift_true (fun _ => rfl) envB_ok mixed (by simp [WFL, WF]) (kindsWords_all j (by omega)) w
  · go_enter Tryz.func3, Tryz.ntmps3
    go_wp2
    all_goals go_ret
    all_goals first
      | exact ⟨rfl, Below.refl _ _⟩
      | exact ⟨rfl, (Below.refl _ _).alloc (Nat.le_refl _) _⟩
      | exact ⟨rfl, ((Below.refl _ _).alloc (Nat.le_refl _) _).alloc ((Below.refl _ _).alloc (Nat.le_refl _) _).size _⟩

end Go.Proofs.YtaoglicedcgnoaaGreatDoor
