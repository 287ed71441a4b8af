/-
  The walk of 'ParseDeep': it returns true; within its range it is reckoned.
-/
import Derived.Test.YtaoglicedcgnoaaParseDeepC0
import Derived.Test.YtaoglicedcgnoaaParseDeepC3
import Derived.Test.YtaoglicedcgnoaaParseDeepC6
import Derived.Test.YtaoglicedcgnoaaParseDeepC9
import Derived.Test.YtaoglicedcgnoaaParseDeepC11
import Derived.Test.YtaoglicedcgnoaaParseDeepC12
import Derived.Test.YtaoglicedcgnoaaParseDeepC13
import Derived.Test.YtaoglicedcgnoaaParseDeepC14
import Derived.Test.YtaoglicedcgnoaaParseDeepC15
import Derived.Test.YtaoglicedcgnoaaParseDeepC16
import Derived.Test.YtaoglicedcgnoaaParseDeepC17
import Derived.Test.YtaoglicedcgnoaaParseDeepC18
import Derived.Test.YtaoglicedcgnoaaParseDeepC19
import Derived.Test.YtaoglicedcgnoaaParseDeepC20
import Derived.Test.YtaoglicedcgnoaaParseDeepC21
import Derived.Test.YtaoglicedcgnoaaParseDeepC22
import Derived.Test.YtaoglicedcgnoaaParseDeepC23
import Derived.Test.YtaoglicedcgnoaaParseDeepC24
import Derived.Test.YtaoglicedcgnoaaParseDeepC25
import Derived.Test.YtaoglicedcgnoaaParseDeepC26
import Derived.Test.YtaoglicedcgnoaaParseDeepC27
import Derived.Test.YtaoglicedcgnoaaParseDeepC28
import Derived.Test.YtaoglicedcgnoaaParseDeepC29
import Derived.Test.YtaoglicedcgnoaaParseDeepC30
import Derived.Test.YtaoglicedcgnoaaParseDeepC31
import Derived.Test.YtaoglicedcgnoaaParseDeepC32
import Derived.Test.YtaoglicedcgnoaaParseDeepC33
import Derived.Test.YtaoglicedcgnoaaParseDeepC34
import Derived.Test.YtaoglicedcgnoaaParseDeepC35
import Derived.Test.YtaoglicedcgnoaaParseDeepC36
import Derived.Test.YtaoglicedcgnoaaParseDeepC37
import Derived.Test.YtaoglicedcgnoaaParseDeepC38
import Derived.Test.YtaoglicedcgnoaaParseDeepC39
import Derived.Test.YtaoglicedcgnoaaParseDeepC40
import Derived.Test.YtaoglicedcgnoaaEvR
import Derived.Test.YtaoglicedcgnoaaKit
namespace Go.Proofs.Ytaoglicedcgnoaa
open Go Go.RowKit
set_option linter.unusedVariables false

theorem parseDeep_all : ∀ a b : Nat, a < 41 → b < 3 → callC Try.prog (fun _ => false) 10000 1000 5 [.int .i64 ((a : Nat) : Int), .int .i64 ((b : Nat) : Int)] ⟨0, .nil⟩ truthC = true
  | 0, 0, _, _ => parseDeep_0_0
  | 0, 1, _, _ => parseDeep_0_1
  | 0, 2, _, _ => parseDeep_0_2
  | 1, 0, _, _ => parseDeep_1_0
  | 1, 1, _, _ => parseDeep_1_1
  | 1, 2, _, _ => parseDeep_1_2
  | 2, 0, _, _ => parseDeep_2_0
  | 2, 1, _, _ => parseDeep_2_1
  | 2, 2, _, _ => parseDeep_2_2
  | 3, 0, _, _ => parseDeep_3_0
  | 3, 1, _, _ => parseDeep_3_1
  | 3, 2, _, _ => parseDeep_3_2
  | 4, 0, _, _ => parseDeep_4_0
  | 4, 1, _, _ => parseDeep_4_1
  | 4, 2, _, _ => parseDeep_4_2
  | 5, 0, _, _ => parseDeep_5_0
  | 5, 1, _, _ => parseDeep_5_1
  | 5, 2, _, _ => parseDeep_5_2
  | 6, 0, _, _ => parseDeep_6_0
  | 6, 1, _, _ => parseDeep_6_1
  | 6, 2, _, _ => parseDeep_6_2
  | 7, 0, _, _ => parseDeep_7_0
  | 7, 1, _, _ => parseDeep_7_1
  | 7, 2, _, _ => parseDeep_7_2
  | 8, 0, _, _ => parseDeep_8_0
  | 8, 1, _, _ => parseDeep_8_1
  | 8, 2, _, _ => parseDeep_8_2
  | 9, 0, _, _ => parseDeep_9_0
  | 9, 1, _, _ => parseDeep_9_1
  | 9, 2, _, _ => parseDeep_9_2
  | 10, 0, _, _ => parseDeep_10_0
  | 10, 1, _, _ => parseDeep_10_1
  | 10, 2, _, _ => parseDeep_10_2
  | 11, 0, _, _ => parseDeep_11_0
  | 11, 1, _, _ => parseDeep_11_1
  | 11, 2, _, _ => parseDeep_11_2
  | 12, 0, _, _ => parseDeep_12_0
  | 12, 1, _, _ => parseDeep_12_1
  | 12, 2, _, _ => parseDeep_12_2
  | 13, 0, _, _ => parseDeep_13_0
  | 13, 1, _, _ => parseDeep_13_1
  | 13, 2, _, _ => parseDeep_13_2
  | 14, 0, _, _ => parseDeep_14_0
  | 14, 1, _, _ => parseDeep_14_1
  | 14, 2, _, _ => parseDeep_14_2
  | 15, 0, _, _ => parseDeep_15_0
  | 15, 1, _, _ => parseDeep_15_1
  | 15, 2, _, _ => parseDeep_15_2
  | 16, 0, _, _ => parseDeep_16_0
  | 16, 1, _, _ => parseDeep_16_1
  | 16, 2, _, _ => parseDeep_16_2
  | 17, 0, _, _ => parseDeep_17_0
  | 17, 1, _, _ => parseDeep_17_1
  | 17, 2, _, _ => parseDeep_17_2
  | 18, 0, _, _ => parseDeep_18_0
  | 18, 1, _, _ => parseDeep_18_1
  | 18, 2, _, _ => parseDeep_18_2
  | 19, 0, _, _ => parseDeep_19_0
  | 19, 1, _, _ => parseDeep_19_1
  | 19, 2, _, _ => parseDeep_19_2
  | 20, 0, _, _ => parseDeep_20_0
  | 20, 1, _, _ => parseDeep_20_1
  | 20, 2, _, _ => parseDeep_20_2
  | 21, 0, _, _ => parseDeep_21_0
  | 21, 1, _, _ => parseDeep_21_1
  | 21, 2, _, _ => parseDeep_21_2
  | 22, 0, _, _ => parseDeep_22_0
  | 22, 1, _, _ => parseDeep_22_1
  | 22, 2, _, _ => parseDeep_22_2
  | 23, 0, _, _ => parseDeep_23_0
  | 23, 1, _, _ => parseDeep_23_1
  | 23, 2, _, _ => parseDeep_23_2
  | 24, 0, _, _ => parseDeep_24_0
  | 24, 1, _, _ => parseDeep_24_1
  | 24, 2, _, _ => parseDeep_24_2
  | 25, 0, _, _ => parseDeep_25_0
  | 25, 1, _, _ => parseDeep_25_1
  | 25, 2, _, _ => parseDeep_25_2
  | 26, 0, _, _ => parseDeep_26_0
  | 26, 1, _, _ => parseDeep_26_1
  | 26, 2, _, _ => parseDeep_26_2
  | 27, 0, _, _ => parseDeep_27_0
  | 27, 1, _, _ => parseDeep_27_1
  | 27, 2, _, _ => parseDeep_27_2
  | 28, 0, _, _ => parseDeep_28_0
  | 28, 1, _, _ => parseDeep_28_1
  | 28, 2, _, _ => parseDeep_28_2
  | 29, 0, _, _ => parseDeep_29_0
  | 29, 1, _, _ => parseDeep_29_1
  | 29, 2, _, _ => parseDeep_29_2
  | 30, 0, _, _ => parseDeep_30_0
  | 30, 1, _, _ => parseDeep_30_1
  | 30, 2, _, _ => parseDeep_30_2
  | 31, 0, _, _ => parseDeep_31_0
  | 31, 1, _, _ => parseDeep_31_1
  | 31, 2, _, _ => parseDeep_31_2
  | 32, 0, _, _ => parseDeep_32_0
  | 32, 1, _, _ => parseDeep_32_1
  | 32, 2, _, _ => parseDeep_32_2
  | 33, 0, _, _ => parseDeep_33_0
  | 33, 1, _, _ => parseDeep_33_1
  | 33, 2, _, _ => parseDeep_33_2
  | 34, 0, _, _ => parseDeep_34_0
  | 34, 1, _, _ => parseDeep_34_1
  | 34, 2, _, _ => parseDeep_34_2
  | 35, 0, _, _ => parseDeep_35_0
  | 35, 1, _, _ => parseDeep_35_1
  | 35, 2, _, _ => parseDeep_35_2
  | 36, 0, _, _ => parseDeep_36_0
  | 36, 1, _, _ => parseDeep_36_1
  | 36, 2, _, _ => parseDeep_36_2
  | 37, 0, _, _ => parseDeep_37_0
  | 37, 1, _, _ => parseDeep_37_1
  | 37, 2, _, _ => parseDeep_37_2
  | 38, 0, _, _ => parseDeep_38_0
  | 38, 1, _, _ => parseDeep_38_1
  | 38, 2, _, _ => parseDeep_38_2
  | 39, 0, _, _ => parseDeep_39_0
  | 39, 1, _, _ => parseDeep_39_1
  | 39, 2, _, _ => parseDeep_39_2
  | 40, 0, _, _ => parseDeep_40_0
  | 40, 1, _, _ => parseDeep_40_1
  | 40, 2, _, _ => parseDeep_40_2
  | a + 41, _, h, _ => absurd h (by omega)
  | 0, b + 3, _, h => absurd h (by omega)
  | 1, b + 3, _, h => absurd h (by omega)
  | 2, b + 3, _, h => absurd h (by omega)
  | 3, b + 3, _, h => absurd h (by omega)
  | 4, b + 3, _, h => absurd h (by omega)
  | 5, b + 3, _, h => absurd h (by omega)
  | 6, b + 3, _, h => absurd h (by omega)
  | 7, b + 3, _, h => absurd h (by omega)
  | 8, b + 3, _, h => absurd h (by omega)
  | 9, b + 3, _, h => absurd h (by omega)
  | 10, b + 3, _, h => absurd h (by omega)
  | 11, b + 3, _, h => absurd h (by omega)
  | 12, b + 3, _, h => absurd h (by omega)
  | 13, b + 3, _, h => absurd h (by omega)
  | 14, b + 3, _, h => absurd h (by omega)
  | 15, b + 3, _, h => absurd h (by omega)
  | 16, b + 3, _, h => absurd h (by omega)
  | 17, b + 3, _, h => absurd h (by omega)
  | 18, b + 3, _, h => absurd h (by omega)
  | 19, b + 3, _, h => absurd h (by omega)
  | 20, b + 3, _, h => absurd h (by omega)
  | 21, b + 3, _, h => absurd h (by omega)
  | 22, b + 3, _, h => absurd h (by omega)
  | 23, b + 3, _, h => absurd h (by omega)
  | 24, b + 3, _, h => absurd h (by omega)
  | 25, b + 3, _, h => absurd h (by omega)
  | 26, b + 3, _, h => absurd h (by omega)
  | 27, b + 3, _, h => absurd h (by omega)
  | 28, b + 3, _, h => absurd h (by omega)
  | 29, b + 3, _, h => absurd h (by omega)
  | 30, b + 3, _, h => absurd h (by omega)
  | 31, b + 3, _, h => absurd h (by omega)
  | 32, b + 3, _, h => absurd h (by omega)
  | 33, b + 3, _, h => absurd h (by omega)
  | 34, b + 3, _, h => absurd h (by omega)
  | 35, b + 3, _, h => absurd h (by omega)
  | 36, b + 3, _, h => absurd h (by omega)
  | 37, b + 3, _, h => absurd h (by omega)
  | 38, b + 3, _, h => absurd h (by omega)
  | 39, b + 3, _, h => absurd h (by omega)
  | 40, b + 3, _, h => absurd h (by omega)

theorem mixed : Try.prog.follows .mixedOrders = true := by decide +kernel

theorem walk_parseDeep (m n : Int) (w : World) (hm : -9223372036854775808 ≤ m ∧ m ≤ 9223372036854775807) (hn : -9223372036854775808 ≤ n ∧ n ≤ 9223372036854775807) :
    Calls Try.prog 5 #[.int .i64 m, .int .i64 n] w fun e w' => e = .returned (.bool true) ∧ Below w.heap.size w w' := by
  by_cases h : (0 ≤ m ∧ m < 41) ∧ 0 ≤ n ∧ n < 3
  · obtain ⟨j, rfl⟩ : ∃ j : Nat, m = j := ⟨m.toNat, by omega⟩
    obtain ⟨k, rfl⟩ : ∃ k : Nat, n = k := ⟨n.toNat, by omega⟩
    exact swift_true mixed (by simp [WFL, WF]) (parseDeep_all j k (by omega) (by omega)) w
  · go_enter Try.func5, Try.ntmps5
    go_wp2
    all_goals go_ret
    all_goals first
      | exact ⟨rfl, Below.refl _ _⟩
      | exact ⟨rfl, (Below.refl _ _).alloc (Nat.le_refl _) _⟩
      | exact ⟨rfl, ((Below.refl _ _).alloc (Nat.le_refl _) _).alloc ((Below.refl _ _).alloc (Nat.le_refl _) _).size _⟩

end Go.Proofs.Ytaoglicedcgnoaa
