/-
  The walk of 'TreeDeep': it returns true; within its range it is reckoned.
-/
import Derived.Test.YtaoglicedcgnoaaTreeDeepC0
import Derived.Test.YtaoglicedcgnoaaKit
namespace Go.Proofs.Ytaoglicedcgnoaa
open Go Go.RowKit
set_option linter.unusedVariables false

theorem treeDeep_all : ∀ k : Nat, k < 41 → isTrue (callF Try.prog (fun _ => false) 10000 200 3 [.int .i64 ((k : Nat) : Int)] ⟨0, .nil⟩) = true
  | 0, _ => treeDeep_0
  | 1, _ => treeDeep_1
  | 2, _ => treeDeep_2
  | 3, _ => treeDeep_3
  | 4, _ => treeDeep_4
  | 5, _ => treeDeep_5
  | 6, _ => treeDeep_6
  | 7, _ => treeDeep_7
  | 8, _ => treeDeep_8
  | 9, _ => treeDeep_9
  | 10, _ => treeDeep_10
  | 11, _ => treeDeep_11
  | 12, _ => treeDeep_12
  | 13, _ => treeDeep_13
  | 14, _ => treeDeep_14
  | 15, _ => treeDeep_15
  | 16, _ => treeDeep_16
  | 17, _ => treeDeep_17
  | 18, _ => treeDeep_18
  | 19, _ => treeDeep_19
  | 20, _ => treeDeep_20
  | 21, _ => treeDeep_21
  | 22, _ => treeDeep_22
  | 23, _ => treeDeep_23
  | 24, _ => treeDeep_24
  | 25, _ => treeDeep_25
  | 26, _ => treeDeep_26
  | 27, _ => treeDeep_27
  | 28, _ => treeDeep_28
  | 29, _ => treeDeep_29
  | 30, _ => treeDeep_30
  | 31, _ => treeDeep_31
  | 32, _ => treeDeep_32
  | 33, _ => treeDeep_33
  | 34, _ => treeDeep_34
  | 35, _ => treeDeep_35
  | 36, _ => treeDeep_36
  | 37, _ => treeDeep_37
  | 38, _ => treeDeep_38
  | 39, _ => treeDeep_39
  | 40, _ => treeDeep_40
  | k + 41, h => absurd h (by omega)

theorem mixed : Try.prog.follows .mixedOrders = true := by decide +kernel

theorem walk_treeDeep (n : Int) (w : World) (hn : -9223372036854775808 ≤ n ∧ n ≤ 9223372036854775807) :
    Calls Try.prog 3 #[.int .i64 n] w fun e w' => e = .returned (.bool true) ∧ Below w.heap.size w w' := by
  by_cases h : 0 ≤ n ∧ n < 41
  · obtain ⟨k, rfl⟩ : ∃ k : Nat, n = k := ⟨n.toNat, by omega⟩
    exact closed_true mixed (by simp [WFL, WF]) (treeDeep_all k (by omega)) w
  · go_enter Try.func3, Try.ntmps3
    go_wp2
    all_goals go_ret
    all_goals exact ⟨rfl, Below.refl _ _⟩

end Go.Proofs.Ytaoglicedcgnoaa
