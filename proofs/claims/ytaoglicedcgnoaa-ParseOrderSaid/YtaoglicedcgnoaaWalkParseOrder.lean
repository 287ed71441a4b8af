/-
  The walk of 'ParseOrder': it returns true; within its range it is reckoned.
-/
import Derived.Test.YtaoglicedcgnoaaParseOrderC0
import Derived.Test.YtaoglicedcgnoaaParseOrderC1
import Derived.Test.YtaoglicedcgnoaaParseOrderC2
import Derived.Test.YtaoglicedcgnoaaParseOrderC3
import Derived.Test.YtaoglicedcgnoaaParseOrderC4
import Derived.Test.YtaoglicedcgnoaaParseOrderC5
import Derived.Test.YtaoglicedcgnoaaParseOrderC6
import Derived.Test.YtaoglicedcgnoaaParseOrderC7
import Derived.Test.YtaoglicedcgnoaaKit
namespace Go.Proofs.Ytaoglicedcgnoaa
open Go Go.RowKit
set_option linter.unusedVariables false

theorem parseOrder_all : ∀ k : Nat, k < 8 → isTrue (callF Try.prog (fun _ => false) 10000 200 4 [.int .i64 ((k : Nat) : Int)] ⟨0, .nil⟩) = true
  | 0, _ => parseOrder_0
  | 1, _ => parseOrder_1
  | 2, _ => parseOrder_2
  | 3, _ => parseOrder_3
  | 4, _ => parseOrder_4
  | 5, _ => parseOrder_5
  | 6, _ => parseOrder_6
  | 7, _ => parseOrder_7
  | k + 8, h => absurd h (by omega)

theorem mixed : Try.prog.follows .mixedOrders = true := by decide +kernel

theorem walk_parseOrder (n : Int) (w : World) (hn : -9223372036854775808 ≤ n ∧ n ≤ 9223372036854775807) :
    Calls Try.prog 4 #[.int .i64 n] w fun e w' => e = .returned (.bool true) ∧ Below w.heap.size w w' := by
  by_cases h : 0 ≤ n ∧ n < 8
  · obtain ⟨k, rfl⟩ : ∃ k : Nat, n = k := ⟨n.toNat, by omega⟩
    exact closed_true mixed (by simp [WFL, WF]) (parseOrder_all k (by omega)) w
  · go_enter Try.func4, Try.ntmps4
    go_wp2
    all_goals go_ret
    all_goals first
      | exact ⟨rfl, Below.refl _ _⟩
      | exact ⟨rfl, (Below.refl _ _).alloc (Nat.le_refl _) _⟩
      | exact ⟨rfl, ((Below.refl _ _).alloc (Nat.le_refl _) _).alloc (by simp [World.alloc]) _⟩

end Go.Proofs.Ytaoglicedcgnoaa
