/-
  The walk of 'LexSigns': it returns true; within its range it is reckoned.
-/
import Derived.Test.YtcccnnfmhdogoaaDoorLexSignsC0
import Derived.Test.YtcccnnfmhdogoaaDoorLexSignsC1
import Derived.Test.YtcccnnfmhdogoaaDoorLexSignsC2
import Derived.Test.YtcccnnfmhdogoaaDoorLexSignsC3
import Derived.Test.YtcccnnfmhdogoaaDoorLexSignsC4
import Derived.Test.YtcccnnfmhdogoaaDoorLexSignsC5
import Derived.Test.YtcccnnfmhdogoaaDoorLexSignsC6
import Derived.Test.YtcccnnfmhdogoaaDoorLexSignsC7
import Derived.Test.YtcccnnfmhdogoaaDoorLexSignsC8
import Derived.Test.YtcccnnfmhdogoaaDoorLexSignsC9
import Derived.Test.YtcccnnfmhdogoaaDoorLexSignsC10
import Derived.Test.YtcccnnfmhdogoaaDoorLexSignsC11
import Derived.Test.YtcccnnfmhdogoaaDoorLexSignsC12
import Derived.Test.YtcccnnfmhdogoaaDoorLexSignsC13
import Derived.Test.YtcccnnfmhdogoaaDoorLexSignsC14
import Derived.Test.YtcccnnfmhdogoaaDoorLexSignsC15
import Derived.Test.YtcccnnfmhdogoaaDoorLexSignsC16
import Derived.Test.YtcccnnfmhdogoaaDoorLexSignsC17
import Derived.Test.YtcccnnfmhdogoaaDoorLexSignsC18
import Derived.Test.YtcccnnfmhdogoaaDoorEvR
import Derived.Test.YtcccnnfmhdogoaaDoorKit
import Derived.Test.YtcccnnfmhdogoaaDoorUtf8
namespace Go.Proofs.YtcccnnfmhdogoaaDoor
open Go Go.RowKit
set_option linter.unusedVariables false

theorem lexSigns_all : ∀ a b : Nat, a < 19 → b < 19 → callC Tryd.prog envK2 10000 1000 7 [.int .i64 ((a : Nat) : Int), .int .i64 ((b : Nat) : Int)] ⟨0, .nil⟩ truthC = true
  | 0, 0, _, _ => lexSigns_0_0
  | 0, 1, _, _ => lexSigns_0_1
  | 0, 2, _, _ => lexSigns_0_2
  | 0, 3, _, _ => lexSigns_0_3
  | 0, 4, _, _ => lexSigns_0_4
  | 0, 5, _, _ => lexSigns_0_5
  | 0, 6, _, _ => lexSigns_0_6
  | 0, 7, _, _ => lexSigns_0_7
  | 0, 8, _, _ => lexSigns_0_8
  | 0, 9, _, _ => lexSigns_0_9
  | 0, 10, _, _ => lexSigns_0_10
  | 0, 11, _, _ => lexSigns_0_11
  | 0, 12, _, _ => lexSigns_0_12
  | 0, 13, _, _ => lexSigns_0_13
  | 0, 14, _, _ => lexSigns_0_14
  | 0, 15, _, _ => lexSigns_0_15
  | 0, 16, _, _ => lexSigns_0_16
  | 0, 17, _, _ => lexSigns_0_17
  | 0, 18, _, _ => lexSigns_0_18
  | 1, 0, _, _ => lexSigns_1_0
  | 1, 1, _, _ => lexSigns_1_1
  | 1, 2, _, _ => lexSigns_1_2
  | 1, 3, _, _ => lexSigns_1_3
  | 1, 4, _, _ => lexSigns_1_4
  | 1, 5, _, _ => lexSigns_1_5
  | 1, 6, _, _ => lexSigns_1_6
  | 1, 7, _, _ => lexSigns_1_7
  | 1, 8, _, _ => lexSigns_1_8
  | 1, 9, _, _ => lexSigns_1_9
  | 1, 10, _, _ => lexSigns_1_10
  | 1, 11, _, _ => lexSigns_1_11
  | 1, 12, _, _ => lexSigns_1_12
  | 1, 13, _, _ => lexSigns_1_13
  | 1, 14, _, _ => lexSigns_1_14
  | 1, 15, _, _ => lexSigns_1_15
  | 1, 16, _, _ => lexSigns_1_16
  | 1, 17, _, _ => lexSigns_1_17
  | 1, 18, _, _ => lexSigns_1_18
  | 2, 0, _, _ => lexSigns_2_0
  | 2, 1, _, _ => lexSigns_2_1
  | 2, 2, _, _ => lexSigns_2_2
  | 2, 3, _, _ => lexSigns_2_3
  | 2, 4, _, _ => lexSigns_2_4
  | 2, 5, _, _ => lexSigns_2_5
  | 2, 6, _, _ => lexSigns_2_6
  | 2, 7, _, _ => lexSigns_2_7
  | 2, 8, _, _ => lexSigns_2_8
  | 2, 9, _, _ => lexSigns_2_9
  | 2, 10, _, _ => lexSigns_2_10
  | 2, 11, _, _ => lexSigns_2_11
  | 2, 12, _, _ => lexSigns_2_12
  | 2, 13, _, _ => lexSigns_2_13
  | 2, 14, _, _ => lexSigns_2_14
  | 2, 15, _, _ => lexSigns_2_15
  | 2, 16, _, _ => lexSigns_2_16
  | 2, 17, _, _ => lexSigns_2_17
  | 2, 18, _, _ => lexSigns_2_18
  | 3, 0, _, _ => lexSigns_3_0
  | 3, 1, _, _ => lexSigns_3_1
  | 3, 2, _, _ => lexSigns_3_2
  | 3, 3, _, _ => lexSigns_3_3
  | 3, 4, _, _ => lexSigns_3_4
  | 3, 5, _, _ => lexSigns_3_5
  | 3, 6, _, _ => lexSigns_3_6
  | 3, 7, _, _ => lexSigns_3_7
  | 3, 8, _, _ => lexSigns_3_8
  | 3, 9, _, _ => lexSigns_3_9
  | 3, 10, _, _ => lexSigns_3_10
  | 3, 11, _, _ => lexSigns_3_11
  | 3, 12, _, _ => lexSigns_3_12
  | 3, 13, _, _ => lexSigns_3_13
  | 3, 14, _, _ => lexSigns_3_14
  | 3, 15, _, _ => lexSigns_3_15
  | 3, 16, _, _ => lexSigns_3_16
  | 3, 17, _, _ => lexSigns_3_17
  | 3, 18, _, _ => lexSigns_3_18
  | 4, 0, _, _ => lexSigns_4_0
  | 4, 1, _, _ => lexSigns_4_1
  | 4, 2, _, _ => lexSigns_4_2
  | 4, 3, _, _ => lexSigns_4_3
  | 4, 4, _, _ => lexSigns_4_4
  | 4, 5, _, _ => lexSigns_4_5
  | 4, 6, _, _ => lexSigns_4_6
  | 4, 7, _, _ => lexSigns_4_7
  | 4, 8, _, _ => lexSigns_4_8
  | 4, 9, _, _ => lexSigns_4_9
  | 4, 10, _, _ => lexSigns_4_10
  | 4, 11, _, _ => lexSigns_4_11
  | 4, 12, _, _ => lexSigns_4_12
  | 4, 13, _, _ => lexSigns_4_13
  | 4, 14, _, _ => lexSigns_4_14
  | 4, 15, _, _ => lexSigns_4_15
  | 4, 16, _, _ => lexSigns_4_16
  | 4, 17, _, _ => lexSigns_4_17
  | 4, 18, _, _ => lexSigns_4_18
  | 5, 0, _, _ => lexSigns_5_0
  | 5, 1, _, _ => lexSigns_5_1
  | 5, 2, _, _ => lexSigns_5_2
  | 5, 3, _, _ => lexSigns_5_3
  | 5, 4, _, _ => lexSigns_5_4
  | 5, 5, _, _ => lexSigns_5_5
  | 5, 6, _, _ => lexSigns_5_6
  | 5, 7, _, _ => lexSigns_5_7
  | 5, 8, _, _ => lexSigns_5_8
  | 5, 9, _, _ => lexSigns_5_9
  | 5, 10, _, _ => lexSigns_5_10
  | 5, 11, _, _ => lexSigns_5_11
  | 5, 12, _, _ => lexSigns_5_12
  | 5, 13, _, _ => lexSigns_5_13
  | 5, 14, _, _ => lexSigns_5_14
  | 5, 15, _, _ => lexSigns_5_15
  | 5, 16, _, _ => lexSigns_5_16
  | 5, 17, _, _ => lexSigns_5_17
  | 5, 18, _, _ => lexSigns_5_18
  | 6, 0, _, _ => lexSigns_6_0
  | 6, 1, _, _ => lexSigns_6_1
  | 6, 2, _, _ => lexSigns_6_2
  | 6, 3, _, _ => lexSigns_6_3
  | 6, 4, _, _ => lexSigns_6_4
  | 6, 5, _, _ => lexSigns_6_5
  | 6, 6, _, _ => lexSigns_6_6
  | 6, 7, _, _ => lexSigns_6_7
  | 6, 8, _, _ => lexSigns_6_8
  | 6, 9, _, _ => lexSigns_6_9
  | 6, 10, _, _ => lexSigns_6_10
  | 6, 11, _, _ => lexSigns_6_11
  | 6, 12, _, _ => lexSigns_6_12
  | 6, 13, _, _ => lexSigns_6_13
  | 6, 14, _, _ => lexSigns_6_14
  | 6, 15, _, _ => lexSigns_6_15
  | 6, 16, _, _ => lexSigns_6_16
  | 6, 17, _, _ => lexSigns_6_17
  | 6, 18, _, _ => lexSigns_6_18
  | 7, 0, _, _ => lexSigns_7_0
  | 7, 1, _, _ => lexSigns_7_1
  | 7, 2, _, _ => lexSigns_7_2
  | 7, 3, _, _ => lexSigns_7_3
  | 7, 4, _, _ => lexSigns_7_4
  | 7, 5, _, _ => lexSigns_7_5
  | 7, 6, _, _ => lexSigns_7_6
  | 7, 7, _, _ => lexSigns_7_7
  | 7, 8, _, _ => lexSigns_7_8
  | 7, 9, _, _ => lexSigns_7_9
  | 7, 10, _, _ => lexSigns_7_10
  | 7, 11, _, _ => lexSigns_7_11
  | 7, 12, _, _ => lexSigns_7_12
  | 7, 13, _, _ => lexSigns_7_13
  | 7, 14, _, _ => lexSigns_7_14
  | 7, 15, _, _ => lexSigns_7_15
  | 7, 16, _, _ => lexSigns_7_16
  | 7, 17, _, _ => lexSigns_7_17
  | 7, 18, _, _ => lexSigns_7_18
  | 8, 0, _, _ => lexSigns_8_0
  | 8, 1, _, _ => lexSigns_8_1
  | 8, 2, _, _ => lexSigns_8_2
  | 8, 3, _, _ => lexSigns_8_3
  | 8, 4, _, _ => lexSigns_8_4
  | 8, 5, _, _ => lexSigns_8_5
  | 8, 6, _, _ => lexSigns_8_6
  | 8, 7, _, _ => lexSigns_8_7
  | 8, 8, _, _ => lexSigns_8_8
  | 8, 9, _, _ => lexSigns_8_9
  | 8, 10, _, _ => lexSigns_8_10
  | 8, 11, _, _ => lexSigns_8_11
  | 8, 12, _, _ => lexSigns_8_12
  | 8, 13, _, _ => lexSigns_8_13
  | 8, 14, _, _ => lexSigns_8_14
  | 8, 15, _, _ => lexSigns_8_15
  | 8, 16, _, _ => lexSigns_8_16
  | 8, 17, _, _ => lexSigns_8_17
  | 8, 18, _, _ => lexSigns_8_18
  | 9, 0, _, _ => lexSigns_9_0
  | 9, 1, _, _ => lexSigns_9_1
  | 9, 2, _, _ => lexSigns_9_2
  | 9, 3, _, _ => lexSigns_9_3
  | 9, 4, _, _ => lexSigns_9_4
  | 9, 5, _, _ => lexSigns_9_5
  | 9, 6, _, _ => lexSigns_9_6
  | 9, 7, _, _ => lexSigns_9_7
  | 9, 8, _, _ => lexSigns_9_8
  | 9, 9, _, _ => lexSigns_9_9
  | 9, 10, _, _ => lexSigns_9_10
  | 9, 11, _, _ => lexSigns_9_11
  | 9, 12, _, _ => lexSigns_9_12
  | 9, 13, _, _ => lexSigns_9_13
  | 9, 14, _, _ => lexSigns_9_14
  | 9, 15, _, _ => lexSigns_9_15
  | 9, 16, _, _ => lexSigns_9_16
  | 9, 17, _, _ => lexSigns_9_17
  | 9, 18, _, _ => lexSigns_9_18
  | 10, 0, _, _ => lexSigns_10_0
  | 10, 1, _, _ => lexSigns_10_1
  | 10, 2, _, _ => lexSigns_10_2
  | 10, 3, _, _ => lexSigns_10_3
  | 10, 4, _, _ => lexSigns_10_4
  | 10, 5, _, _ => lexSigns_10_5
  | 10, 6, _, _ => lexSigns_10_6
  | 10, 7, _, _ => lexSigns_10_7
  | 10, 8, _, _ => lexSigns_10_8
  | 10, 9, _, _ => lexSigns_10_9
  | 10, 10, _, _ => lexSigns_10_10
  | 10, 11, _, _ => lexSigns_10_11
  | 10, 12, _, _ => lexSigns_10_12
  | 10, 13, _, _ => lexSigns_10_13
  | 10, 14, _, _ => lexSigns_10_14
  | 10, 15, _, _ => lexSigns_10_15
  | 10, 16, _, _ => lexSigns_10_16
  | 10, 17, _, _ => lexSigns_10_17
  | 10, 18, _, _ => lexSigns_10_18
  | 11, 0, _, _ => lexSigns_11_0
  | 11, 1, _, _ => lexSigns_11_1
  | 11, 2, _, _ => lexSigns_11_2
  | 11, 3, _, _ => lexSigns_11_3
  | 11, 4, _, _ => lexSigns_11_4
  | 11, 5, _, _ => lexSigns_11_5
  | 11, 6, _, _ => lexSigns_11_6
  | 11, 7, _, _ => lexSigns_11_7
  | 11, 8, _, _ => lexSigns_11_8
  | 11, 9, _, _ => lexSigns_11_9
  | 11, 10, _, _ => lexSigns_11_10
  | 11, 11, _, _ => lexSigns_11_11
  | 11, 12, _, _ => lexSigns_11_12
  | 11, 13, _, _ => lexSigns_11_13
  | 11, 14, _, _ => lexSigns_11_14
  | 11, 15, _, _ => lexSigns_11_15
  | 11, 16, _, _ => lexSigns_11_16
  | 11, 17, _, _ => lexSigns_11_17
  | 11, 18, _, _ => lexSigns_11_18
  | 12, 0, _, _ => lexSigns_12_0
  | 12, 1, _, _ => lexSigns_12_1
  | 12, 2, _, _ => lexSigns_12_2
  | 12, 3, _, _ => lexSigns_12_3
  | 12, 4, _, _ => lexSigns_12_4
  | 12, 5, _, _ => lexSigns_12_5
  | 12, 6, _, _ => lexSigns_12_6
  | 12, 7, _, _ => lexSigns_12_7
  | 12, 8, _, _ => lexSigns_12_8
  | 12, 9, _, _ => lexSigns_12_9
  | 12, 10, _, _ => lexSigns_12_10
  | 12, 11, _, _ => lexSigns_12_11
  | 12, 12, _, _ => lexSigns_12_12
  | 12, 13, _, _ => lexSigns_12_13
  | 12, 14, _, _ => lexSigns_12_14
  | 12, 15, _, _ => lexSigns_12_15
  | 12, 16, _, _ => lexSigns_12_16
  | 12, 17, _, _ => lexSigns_12_17
  | 12, 18, _, _ => lexSigns_12_18
  | 13, 0, _, _ => lexSigns_13_0
  | 13, 1, _, _ => lexSigns_13_1
  | 13, 2, _, _ => lexSigns_13_2
  | 13, 3, _, _ => lexSigns_13_3
  | 13, 4, _, _ => lexSigns_13_4
  | 13, 5, _, _ => lexSigns_13_5
  | 13, 6, _, _ => lexSigns_13_6
  | 13, 7, _, _ => lexSigns_13_7
  | 13, 8, _, _ => lexSigns_13_8
  | 13, 9, _, _ => lexSigns_13_9
  | 13, 10, _, _ => lexSigns_13_10
  | 13, 11, _, _ => lexSigns_13_11
  | 13, 12, _, _ => lexSigns_13_12
  | 13, 13, _, _ => lexSigns_13_13
  | 13, 14, _, _ => lexSigns_13_14
  | 13, 15, _, _ => lexSigns_13_15
  | 13, 16, _, _ => lexSigns_13_16
  | 13, 17, _, _ => lexSigns_13_17
  | 13, 18, _, _ => lexSigns_13_18
  | 14, 0, _, _ => lexSigns_14_0
  | 14, 1, _, _ => lexSigns_14_1
  | 14, 2, _, _ => lexSigns_14_2
  | 14, 3, _, _ => lexSigns_14_3
  | 14, 4, _, _ => lexSigns_14_4
  | 14, 5, _, _ => lexSigns_14_5
  | 14, 6, _, _ => lexSigns_14_6
  | 14, 7, _, _ => lexSigns_14_7
  | 14, 8, _, _ => lexSigns_14_8
  | 14, 9, _, _ => lexSigns_14_9
  | 14, 10, _, _ => lexSigns_14_10
  | 14, 11, _, _ => lexSigns_14_11
  | 14, 12, _, _ => lexSigns_14_12
  | 14, 13, _, _ => lexSigns_14_13
  | 14, 14, _, _ => lexSigns_14_14
  | 14, 15, _, _ => lexSigns_14_15
  | 14, 16, _, _ => lexSigns_14_16
  | 14, 17, _, _ => lexSigns_14_17
  | 14, 18, _, _ => lexSigns_14_18
  | 15, 0, _, _ => lexSigns_15_0
  | 15, 1, _, _ => lexSigns_15_1
  | 15, 2, _, _ => lexSigns_15_2
  | 15, 3, _, _ => lexSigns_15_3
  | 15, 4, _, _ => lexSigns_15_4
  | 15, 5, _, _ => lexSigns_15_5
  | 15, 6, _, _ => lexSigns_15_6
  | 15, 7, _, _ => lexSigns_15_7
  | 15, 8, _, _ => lexSigns_15_8
  | 15, 9, _, _ => lexSigns_15_9
  | 15, 10, _, _ => lexSigns_15_10
  | 15, 11, _, _ => lexSigns_15_11
  | 15, 12, _, _ => lexSigns_15_12
  | 15, 13, _, _ => lexSigns_15_13
  | 15, 14, _, _ => lexSigns_15_14
  | 15, 15, _, _ => lexSigns_15_15
  | 15, 16, _, _ => lexSigns_15_16
  | 15, 17, _, _ => lexSigns_15_17
  | 15, 18, _, _ => lexSigns_15_18
  | 16, 0, _, _ => lexSigns_16_0
  | 16, 1, _, _ => lexSigns_16_1
  | 16, 2, _, _ => lexSigns_16_2
  | 16, 3, _, _ => lexSigns_16_3
  | 16, 4, _, _ => lexSigns_16_4
  | 16, 5, _, _ => lexSigns_16_5
  | 16, 6, _, _ => lexSigns_16_6
  | 16, 7, _, _ => lexSigns_16_7
  | 16, 8, _, _ => lexSigns_16_8
  | 16, 9, _, _ => lexSigns_16_9
  | 16, 10, _, _ => lexSigns_16_10
  | 16, 11, _, _ => lexSigns_16_11
  | 16, 12, _, _ => lexSigns_16_12
  | 16, 13, _, _ => lexSigns_16_13
  | 16, 14, _, _ => lexSigns_16_14
  | 16, 15, _, _ => lexSigns_16_15
  | 16, 16, _, _ => lexSigns_16_16
  | 16, 17, _, _ => lexSigns_16_17
  | 16, 18, _, _ => lexSigns_16_18
  | 17, 0, _, _ => lexSigns_17_0
  | 17, 1, _, _ => lexSigns_17_1
  | 17, 2, _, _ => lexSigns_17_2
  | 17, 3, _, _ => lexSigns_17_3
  | 17, 4, _, _ => lexSigns_17_4
  | 17, 5, _, _ => lexSigns_17_5
  | 17, 6, _, _ => lexSigns_17_6
  | 17, 7, _, _ => lexSigns_17_7
  | 17, 8, _, _ => lexSigns_17_8
  | 17, 9, _, _ => lexSigns_17_9
  | 17, 10, _, _ => lexSigns_17_10
  | 17, 11, _, _ => lexSigns_17_11
  | 17, 12, _, _ => lexSigns_17_12
  | 17, 13, _, _ => lexSigns_17_13
  | 17, 14, _, _ => lexSigns_17_14
  | 17, 15, _, _ => lexSigns_17_15
  | 17, 16, _, _ => lexSigns_17_16
  | 17, 17, _, _ => lexSigns_17_17
  | 17, 18, _, _ => lexSigns_17_18
  | 18, 0, _, _ => lexSigns_18_0
  | 18, 1, _, _ => lexSigns_18_1
  | 18, 2, _, _ => lexSigns_18_2
  | 18, 3, _, _ => lexSigns_18_3
  | 18, 4, _, _ => lexSigns_18_4
  | 18, 5, _, _ => lexSigns_18_5
  | 18, 6, _, _ => lexSigns_18_6
  | 18, 7, _, _ => lexSigns_18_7
  | 18, 8, _, _ => lexSigns_18_8
  | 18, 9, _, _ => lexSigns_18_9
  | 18, 10, _, _ => lexSigns_18_10
  | 18, 11, _, _ => lexSigns_18_11
  | 18, 12, _, _ => lexSigns_18_12
  | 18, 13, _, _ => lexSigns_18_13
  | 18, 14, _, _ => lexSigns_18_14
  | 18, 15, _, _ => lexSigns_18_15
  | 18, 16, _, _ => lexSigns_18_16
  | 18, 17, _, _ => lexSigns_18_17
  | 18, 18, _, _ => lexSigns_18_18
  | a + 19, _, h, _ => absurd h (by omega)
  | 0, b + 19, _, h => absurd h (by omega)
  | 1, b + 19, _, h => absurd h (by omega)
  | 2, b + 19, _, h => absurd h (by omega)
  | 3, b + 19, _, h => absurd h (by omega)
  | 4, b + 19, _, h => absurd h (by omega)
  | 5, b + 19, _, h => absurd h (by omega)
  | 6, b + 19, _, h => absurd h (by omega)
  | 7, b + 19, _, h => absurd h (by omega)
  | 8, b + 19, _, h => absurd h (by omega)
  | 9, b + 19, _, h => absurd h (by omega)
  | 10, b + 19, _, h => absurd h (by omega)
  | 11, b + 19, _, h => absurd h (by omega)
  | 12, b + 19, _, h => absurd h (by omega)
  | 13, b + 19, _, h => absurd h (by omega)
  | 14, b + 19, _, h => absurd h (by omega)
  | 15, b + 19, _, h => absurd h (by omega)
  | 16, b + 19, _, h => absurd h (by omega)
  | 17, b + 19, _, h => absurd h (by omega)
  | 18, b + 19, _, h => absurd h (by omega)

theorem walk_lexSigns (m n : Int) (w : World) (hm : -9223372036854775808 ≤ m ∧ m ≤ 9223372036854775807) (hn : -9223372036854775808 ≤ n ∧ n ≤ 9223372036854775807) (hT : Tabs w) :
    Calls Tryd.prog 7 #[.int .i64 m, .int .i64 n] w fun e w' => e = .returned (.bool true) ∧ Below w.heap.size w w' := by
  by_cases h : (0 ≤ m ∧ m < 19) ∧ 0 ≤ n ∧ n < 19
  · obtain ⟨j, rfl⟩ : ∃ j : Nat, m = j := ⟨m.toNat, by omega⟩
    obtain ⟨k, rfl⟩ : ∃ k : Nat, n = k := ⟨n.toNat, by omega⟩
    exact swift_true (fun _ => rfl) envK2_ok mixed (by simp [WFL, WF]) (lexSigns_all j k (by omega) (by omega)) w
  · go_enter Tryd.func7, Tryd.ntmps7
    go_wp2
    all_goals go_ret
    all_goals first
      | exact ⟨rfl, Below.refl _ _⟩
      | exact ⟨rfl, (Below.refl _ _).alloc (Nat.le_refl _) _⟩
      | exact ⟨rfl, ((Below.refl _ _).alloc (Nat.le_refl _) _).alloc ((Below.refl _ _).alloc (Nat.le_refl _) _).size _⟩

end Go.Proofs.YtcccnnfmhdogoaaDoor
