/-
  'LowerLimits', reckoned: first parameter 50 to 54.
-/
import Derived.Test.YtaoglicedcgnoaaGreatDoorKnown10
namespace Go.Proofs.YtaoglicedcgnoaaGreatDoor
open Go
set_option maxRecDepth 1000000

theorem lowerLimits_50_0 : callC Tryz.prog envK10 10000 1000 5 [.int .i64 ((50 : Nat) : Int), .int .i64 ((0 : Nat) : Int)] ⟨0, .nil⟩ truthC = true := by decide +kernel
theorem lowerLimits_50_1 : callC Tryz.prog envK10 10000 1000 5 [.int .i64 ((50 : Nat) : Int), .int .i64 ((1 : Nat) : Int)] ⟨0, .nil⟩ truthC = true := by decide +kernel
theorem lowerLimits_50_2 : callC Tryz.prog envK10 10000 1000 5 [.int .i64 ((50 : Nat) : Int), .int .i64 ((2 : Nat) : Int)] ⟨0, .nil⟩ truthC = true := by decide +kernel
theorem lowerLimits_50_3 : callC Tryz.prog envK10 10000 1000 5 [.int .i64 ((50 : Nat) : Int), .int .i64 ((3 : Nat) : Int)] ⟨0, .nil⟩ truthC = true := by decide +kernel
theorem lowerLimits_50_4 : callC Tryz.prog envK10 10000 1000 5 [.int .i64 ((50 : Nat) : Int), .int .i64 ((4 : Nat) : Int)] ⟨0, .nil⟩ truthC = true := by decide +kernel
theorem lowerLimits_50_5 : callC Tryz.prog envK10 10000 1000 5 [.int .i64 ((50 : Nat) : Int), .int .i64 ((5 : Nat) : Int)] ⟨0, .nil⟩ truthC = true := by decide +kernel
theorem lowerLimits_50_6 : callC Tryz.prog envK10 10000 1000 5 [.int .i64 ((50 : Nat) : Int), .int .i64 ((6 : Nat) : Int)] ⟨0, .nil⟩ truthC = true := by decide +kernel
theorem lowerLimits_50_7 : callC Tryz.prog envK10 10000 1000 5 [.int .i64 ((50 : Nat) : Int), .int .i64 ((7 : Nat) : Int)] ⟨0, .nil⟩ truthC = true := by decide +kernel
theorem lowerLimits_50_8 : callC Tryz.prog envK10 10000 1000 5 [.int .i64 ((50 : Nat) : Int), .int .i64 ((8 : Nat) : Int)] ⟨0, .nil⟩ truthC = true := by decide +kernel
theorem lowerLimits_51_0 : callC Tryz.prog envK10 10000 1000 5 [.int .i64 ((51 : Nat) : Int), .int .i64 ((0 : Nat) : Int)] ⟨0, .nil⟩ truthC = true := by decide +kernel
theorem lowerLimits_51_1 : callC Tryz.prog envK10 10000 1000 5 [.int .i64 ((51 : Nat) : Int), .int .i64 ((1 : Nat) : Int)] ⟨0, .nil⟩ truthC = true := by decide +kernel
theorem lowerLimits_51_2 : callC Tryz.prog envK10 10000 1000 5 [.int .i64 ((51 : Nat) : Int), .int .i64 ((2 : Nat) : Int)] ⟨0, .nil⟩ truthC = true := by decide +kernel
theorem lowerLimits_51_3 : callC Tryz.prog envK10 10000 1000 5 [.int .i64 ((51 : Nat) : Int), .int .i64 ((3 : Nat) : Int)] ⟨0, .nil⟩ truthC = true := by decide +kernel
theorem lowerLimits_51_4 : callC Tryz.prog envK10 10000 1000 5 [.int .i64 ((51 : Nat) : Int), .int .i64 ((4 : Nat) : Int)] ⟨0, .nil⟩ truthC = true := by decide +kernel
theorem lowerLimits_51_5 : callC Tryz.prog envK10 10000 1000 5 [.int .i64 ((51 : Nat) : Int), .int .i64 ((5 : Nat) : Int)] ⟨0, .nil⟩ truthC = true := by decide +kernel
theorem lowerLimits_51_6 : callC Tryz.prog envK10 10000 1000 5 [.int .i64 ((51 : Nat) : Int), .int .i64 ((6 : Nat) : Int)] ⟨0, .nil⟩ truthC = true := by decide +kernel
theorem lowerLimits_51_7 : callC Tryz.prog envK10 10000 1000 5 [.int .i64 ((51 : Nat) : Int), .int .i64 ((7 : Nat) : Int)] ⟨0, .nil⟩ truthC = true := by decide +kernel
theorem lowerLimits_51_8 : callC Tryz.prog envK10 10000 1000 5 [.int .i64 ((51 : Nat) : Int), .int .i64 ((8 : Nat) : Int)] ⟨0, .nil⟩ truthC = true := by decide +kernel
theorem lowerLimits_52_0 : callC Tryz.prog envK10 10000 1000 5 [.int .i64 ((52 : Nat) : Int), .int .i64 ((0 : Nat) : Int)] ⟨0, .nil⟩ truthC = true := by decide +kernel
theorem lowerLimits_52_1 : callC Tryz.prog envK10 10000 1000 5 [.int .i64 ((52 : Nat) : Int), .int .i64 ((1 : Nat) : Int)] ⟨0, .nil⟩ truthC = true := by decide +kernel
theorem lowerLimits_52_2 : callC Tryz.prog envK10 10000 1000 5 [.int .i64 ((52 : Nat) : Int), .int .i64 ((2 : Nat) : Int)] ⟨0, .nil⟩ truthC = true := by decide +kernel
theorem lowerLimits_52_3 : callC Tryz.prog envK10 10000 1000 5 [.int .i64 ((52 : Nat) : Int), .int .i64 ((3 : Nat) : Int)] ⟨0, .nil⟩ truthC = true := by decide +kernel
theorem lowerLimits_52_4 : callC Tryz.prog envK10 10000 1000 5 [.int .i64 ((52 : Nat) : Int), .int .i64 ((4 : Nat) : Int)] ⟨0, .nil⟩ truthC = true := by decide +kernel
theorem lowerLimits_52_5 : callC Tryz.prog envK10 10000 1000 5 [.int .i64 ((52 : Nat) : Int), .int .i64 ((5 : Nat) : Int)] ⟨0, .nil⟩ truthC = true := by decide +kernel
theorem lowerLimits_52_6 : callC Tryz.prog envK10 10000 1000 5 [.int .i64 ((52 : Nat) : Int), .int .i64 ((6 : Nat) : Int)] ⟨0, .nil⟩ truthC = true := by decide +kernel
theorem lowerLimits_52_7 : callC Tryz.prog envK10 10000 1000 5 [.int .i64 ((52 : Nat) : Int), .int .i64 ((7 : Nat) : Int)] ⟨0, .nil⟩ truthC = true := by decide +kernel
theorem lowerLimits_52_8 : callC Tryz.prog envK10 10000 1000 5 [.int .i64 ((52 : Nat) : Int), .int .i64 ((8 : Nat) : Int)] ⟨0, .nil⟩ truthC = true := by decide +kernel
theorem lowerLimits_53_0 : callC Tryz.prog envK10 10000 1000 5 [.int .i64 ((53 : Nat) : Int), .int .i64 ((0 : Nat) : Int)] ⟨0, .nil⟩ truthC = true := by decide +kernel
theorem lowerLimits_53_1 : callC Tryz.prog envK10 10000 1000 5 [.int .i64 ((53 : Nat) : Int), .int .i64 ((1 : Nat) : Int)] ⟨0, .nil⟩ truthC = true := by decide +kernel
theorem lowerLimits_53_2 : callC Tryz.prog envK10 10000 1000 5 [.int .i64 ((53 : Nat) : Int), .int .i64 ((2 : Nat) : Int)] ⟨0, .nil⟩ truthC = true := by decide +kernel
theorem lowerLimits_53_3 : callC Tryz.prog envK10 10000 1000 5 [.int .i64 ((53 : Nat) : Int), .int .i64 ((3 : Nat) : Int)] ⟨0, .nil⟩ truthC = true := by decide +kernel
theorem lowerLimits_53_4 : callC Tryz.prog envK10 10000 1000 5 [.int .i64 ((53 : Nat) : Int), .int .i64 ((4 : Nat) : Int)] ⟨0, .nil⟩ truthC = true := by decide +kernel
theorem lowerLimits_53_5 : callC Tryz.prog envK10 10000 1000 5 [.int .i64 ((53 : Nat) : Int), .int .i64 ((5 : Nat) : Int)] ⟨0, .nil⟩ truthC = true := by decide +kernel
theorem lowerLimits_53_6 : callC Tryz.prog envK10 10000 1000 5 [.int .i64 ((53 : Nat) : Int), .int .i64 ((6 : Nat) : Int)] ⟨0, .nil⟩ truthC = true := by decide +kernel
theorem lowerLimits_53_7 : callC Tryz.prog envK10 10000 1000 5 [.int .i64 ((53 : Nat) : Int), .int .i64 ((7 : Nat) : Int)] ⟨0, .nil⟩ truthC = true := by decide +kernel
theorem lowerLimits_53_8 : callC Tryz.prog envK10 10000 1000 5 [.int .i64 ((53 : Nat) : Int), .int .i64 ((8 : Nat) : Int)] ⟨0, .nil⟩ truthC = true := by decide +kernel
theorem lowerLimits_54_0 : callC Tryz.prog envK10 10000 1000 5 [.int .i64 ((54 : Nat) : Int), .int .i64 ((0 : Nat) : Int)] ⟨0, .nil⟩ truthC = true := by decide +kernel
theorem lowerLimits_54_1 : callC Tryz.prog envK10 10000 1000 5 [.int .i64 ((54 : Nat) : Int), .int .i64 ((1 : Nat) : Int)] ⟨0, .nil⟩ truthC = true := by decide +kernel
theorem lowerLimits_54_2 : callC Tryz.prog envK10 10000 1000 5 [.int .i64 ((54 : Nat) : Int), .int .i64 ((2 : Nat) : Int)] ⟨0, .nil⟩ truthC = true := by decide +kernel
theorem lowerLimits_54_3 : callC Tryz.prog envK10 10000 1000 5 [.int .i64 ((54 : Nat) : Int), .int .i64 ((3 : Nat) : Int)] ⟨0, .nil⟩ truthC = true := by decide +kernel
theorem lowerLimits_54_4 : callC Tryz.prog envK10 10000 1000 5 [.int .i64 ((54 : Nat) : Int), .int .i64 ((4 : Nat) : Int)] ⟨0, .nil⟩ truthC = true := by decide +kernel
theorem lowerLimits_54_5 : callC Tryz.prog envK10 10000 1000 5 [.int .i64 ((54 : Nat) : Int), .int .i64 ((5 : Nat) : Int)] ⟨0, .nil⟩ truthC = true := by decide +kernel
theorem lowerLimits_54_6 : callC Tryz.prog envK10 10000 1000 5 [.int .i64 ((54 : Nat) : Int), .int .i64 ((6 : Nat) : Int)] ⟨0, .nil⟩ truthC = true := by decide +kernel
theorem lowerLimits_54_7 : callC Tryz.prog envK10 10000 1000 5 [.int .i64 ((54 : Nat) : Int), .int .i64 ((7 : Nat) : Int)] ⟨0, .nil⟩ truthC = true := by decide +kernel
theorem lowerLimits_54_8 : callC Tryz.prog envK10 10000 1000 5 [.int .i64 ((54 : Nat) : Int), .int .i64 ((8 : Nat) : Int)] ⟨0, .nil⟩ truthC = true := by decide +kernel

end Go.Proofs.YtaoglicedcgnoaaGreatDoor
