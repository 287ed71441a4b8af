/-
  The walk of 'CompTruths': it returns true; within its range it is reckoned.
-/
import Derived.Test.YtiknomepbklibaaGreatDoorCompTruthsC0
import Derived.Test.YtiknomepbklibaaGreatDoorCompTruthsC1
import Derived.Test.YtiknomepbklibaaGreatDoorCompTruthsC2
import Derived.Test.YtiknomepbklibaaGreatDoorCompTruthsC3
import Derived.Test.YtiknomepbklibaaGreatDoorCta
namespace Go.Proofs.YtiknomepbklibaaGreatDoor
open Go Go.RowKit
set_option linter.unusedVariables false

theorem compTruths_all : ∀ a : Nat, a < 4 → callC Tryz.prog envK26 10000 1000 5 [.int .i64 ((a : Nat) : Int)] ⟨0, .nil⟩ truthC = true
  | 0, _ => compTruths_0
  | 1, _ => compTruths_1
  | 2, _ => compTruths_2
  | 3, _ => compTruths_3
  | a + 4, h => absurd h (by omega)

theorem walk_compTruths (m : Int) (w : World) (hm : -9223372036854775808 ≤ m ∧ m ≤ 9223372036854775807) (hT : TabsP w) :
    Calls Tryz.prog 5 #[.int .i64 m] w fun e w' => e = .returned (.bool true) ∧ Below w.heap.size w w' := by
  by_cases h : 0 ≤ m ∧ m < 4
  · obtain ⟨j, rfl⟩ : ∃ j : Nat, m = j := ⟨m.toNat, by omega⟩
    exact swift_true (fun _ => rfl) envK26_ok mixed (by simp [WFL, WF]) (compTruths_all j (by omega)) w hT
  · have := open_true (G := envQ) (fun _ => rfl) envQ_ok mixed (f := 5) (args := [.int .i64 m]) (ml := []) GoodM.nil ⟨trivial, trivial⟩
      (compTruths_off (stM_fresh []) m (by omega)) hT
    exact this

end Go.Proofs.YtiknomepbklibaaGreatDoor
