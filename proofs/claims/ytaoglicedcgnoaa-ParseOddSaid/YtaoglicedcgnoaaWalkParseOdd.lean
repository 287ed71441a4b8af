/-
  The walk of 'ParseOdd': it returns true; within its range it is reckoned.
-/
import Derived.Test.YtaoglicedcgnoaaParseOddC0
import Derived.Test.YtaoglicedcgnoaaParseOddC1
import Derived.Test.YtaoglicedcgnoaaParseOddC2
import Derived.Test.YtaoglicedcgnoaaParseOddC3
import Derived.Test.YtaoglicedcgnoaaParseOddC4
import Derived.Test.YtaoglicedcgnoaaParseOddC5
import Derived.Test.YtaoglicedcgnoaaParseOddC6
import Derived.Test.YtaoglicedcgnoaaParseOddC7
import Derived.Test.YtaoglicedcgnoaaParseOddC8
import Derived.Test.YtaoglicedcgnoaaParseOddC9
import Derived.Test.YtaoglicedcgnoaaParseOddC10
import Derived.Test.YtaoglicedcgnoaaParseOddC11
import Derived.Test.YtaoglicedcgnoaaParseOddC12
import Derived.Test.YtaoglicedcgnoaaParseOddC13
import Derived.Test.YtaoglicedcgnoaaParseOddC14
import Derived.Test.YtaoglicedcgnoaaParseOddC15
import Derived.Test.YtaoglicedcgnoaaParseOddC16
import Derived.Test.YtaoglicedcgnoaaKit
namespace Go.Proofs.Ytaoglicedcgnoaa
open Go Go.RowKit
set_option linter.unusedVariables false

theorem parseOdd_all : ∀ k : Nat, k < 17 → isTrue (callF Try.prog (fun _ => false) 10000 200 6 [.int .i64 ((k : Nat) : Int)] ⟨0, .nil⟩) = true
  | 0, _ => parseOdd_0
  | 1, _ => parseOdd_1
  | 2, _ => parseOdd_2
  | 3, _ => parseOdd_3
  | 4, _ => parseOdd_4
  | 5, _ => parseOdd_5
  | 6, _ => parseOdd_6
  | 7, _ => parseOdd_7
  | 8, _ => parseOdd_8
  | 9, _ => parseOdd_9
  | 10, _ => parseOdd_10
  | 11, _ => parseOdd_11
  | 12, _ => parseOdd_12
  | 13, _ => parseOdd_13
  | 14, _ => parseOdd_14
  | 15, _ => parseOdd_15
  | 16, _ => parseOdd_16
  | k + 17, h => absurd h (by omega)

theorem mixed : Try.prog.follows .mixedOrders = true := by decide +kernel

theorem walk_parseOdd (n : Int) (w : World) (hn : -9223372036854775808 ≤ n ∧ n ≤ 9223372036854775807) :
    Calls Try.prog 6 #[.int .i64 n] w fun e w' => e = .returned (.bool true) ∧ Below w.heap.size w w' := by
  by_cases h : 0 ≤ n ∧ n < 17
  · obtain ⟨k, rfl⟩ : ∃ k : Nat, n = k := ⟨n.toNat, by omega⟩
    exact closed_true mixed (by simp [WFL, WF]) (parseOdd_all k (by omega)) w
  · go_enter Try.func6, Try.ntmps6
    go_wp2
    all_goals go_ret
    all_goals first
      | exact ⟨rfl, Below.refl _ _⟩
      | exact ⟨rfl, (Below.refl _ _).alloc (Nat.le_refl _) _⟩
      | exact ⟨rfl, ((Below.refl _ _).alloc (Nat.le_refl _) _).alloc ((Below.refl _ _).alloc (Nat.le_refl _) _).size _⟩

end Go.Proofs.Ytaoglicedcgnoaa
