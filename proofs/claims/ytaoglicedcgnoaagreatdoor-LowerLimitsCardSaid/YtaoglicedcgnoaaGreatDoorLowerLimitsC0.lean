/-
  'LowerLimits', reckoned: first parameter 0 to 4.
-/
import Derived.Test.YtaoglicedcgnoaaGreatDoorKnown10
namespace Go.Proofs.YtaoglicedcgnoaaGreatDoor
open Go
set_option maxRecDepth 1000000

theorem lowerLimits_0_0 : callC Tryz.prog envK10 10000 1000 5 [.int .i64 ((0 : Nat) : Int), .int .i64 ((0 : Nat) : Int)] ⟨0, .nil⟩ truthC = true := by decide +kernel
theorem lowerLimits_0_1 : callC Tryz.prog envK10 10000 1000 5 [.int .i64 ((0 : Nat) : Int), .int .i64 ((1 : Nat) : Int)] ⟨0, .nil⟩ truthC = true := by decide +kernel
theorem lowerLimits_0_2 : callC Tryz.prog envK10 10000 1000 5 [.int .i64 ((0 : Nat) : Int), .int .i64 ((2 : Nat) : Int)] ⟨0, .nil⟩ truthC = true := by decide +kernel
theorem lowerLimits_0_3 : callC Tryz.prog envK10 10000 1000 5 [.int .i64 ((0 : Nat) : Int), .int .i64 ((3 : Nat) : Int)] ⟨0, .nil⟩ truthC = true := by decide +kernel
theorem lowerLimits_0_4 : callC Tryz.prog envK10 10000 1000 5 [.int .i64 ((0 : Nat) : Int), .int .i64 ((4 : Nat) : Int)] ⟨0, .nil⟩ truthC = true := by decide +kernel
theorem lowerLimits_0_5 : callC Tryz.prog envK10 10000 1000 5 [.int .i64 ((0 : Nat) : Int), .int .i64 ((5 : Nat) : Int)] ⟨0, .nil⟩ truthC = true := by decide +kernel
theorem lowerLimits_0_6 : callC Tryz.prog envK10 10000 1000 5 [.int .i64 ((0 : Nat) : Int), .int .i64 ((6 : Nat) : Int)] ⟨0, .nil⟩ truthC = true := by decide +kernel
theorem lowerLimits_0_7 : callC Tryz.prog envK10 10000 1000 5 [.int .i64 ((0 : Nat) : Int), .int .i64 ((7 : Nat) : Int)] ⟨0, .nil⟩ truthC = true := by decide +kernel
theorem lowerLimits_0_8 : callC Tryz.prog envK10 10000 1000 5 [.int .i64 ((0 : Nat) : Int), .int .i64 ((8 : Nat) : Int)] ⟨0, .nil⟩ truthC = true := by decide +kernel
theorem lowerLimits_1_0 : callC Tryz.prog envK10 10000 1000 5 [.int .i64 ((1 : Nat) : Int), .int .i64 ((0 : Nat) : Int)] ⟨0, .nil⟩ truthC = true := by decide +kernel
theorem lowerLimits_1_1 : callC Tryz.prog envK10 10000 1000 5 [.int .i64 ((1 : Nat) : Int), .int .i64 ((1 : Nat) : Int)] ⟨0, .nil⟩ truthC = true := by decide +kernel
theorem lowerLimits_1_2 : callC Tryz.prog envK10 10000 1000 5 [.int .i64 ((1 : Nat) : Int), .int .i64 ((2 : Nat) : Int)] ⟨0, .nil⟩ truthC = true := by decide +kernel
theorem lowerLimits_1_3 : callC Tryz.prog envK10 10000 1000 5 [.int .i64 ((1 : Nat) : Int), .int .i64 ((3 : Nat) : Int)] ⟨0, .nil⟩ truthC = true := by decide +kernel
theorem lowerLimits_1_4 : callC Tryz.prog envK10 10000 1000 5 [.int .i64 ((1 : Nat) : Int), .int .i64 ((4 : Nat) : Int)] ⟨0, .nil⟩ truthC = true := by decide +kernel
theorem lowerLimits_1_5 : callC Tryz.prog envK10 10000 1000 5 [.int .i64 ((1 : Nat) : Int), .int .i64 ((5 : Nat) : Int)] ⟨0, .nil⟩ truthC = true := by decide +kernel
theorem lowerLimits_1_6 : callC Tryz.prog envK10 10000 1000 5 [.int .i64 ((1 : Nat) : Int), .int .i64 ((6 : Nat) : Int)] ⟨0, .nil⟩ truthC = true := by decide +kernel
theorem lowerLimits_1_7 : callC Tryz.prog envK10 10000 1000 5 [.int .i64 ((1 : Nat) : Int), .int .i64 ((7 : Nat) : Int)] ⟨0, .nil⟩ truthC = true := by decide +kernel
theorem lowerLimits_1_8 : callC Tryz.prog envK10 10000 1000 5 [.int .i64 ((1 : Nat) : Int), .int .i64 ((8 : Nat) : Int)] ⟨0, .nil⟩ truthC = true := by decide +kernel
theorem lowerLimits_2_0 : callC Tryz.prog envK10 10000 1000 5 [.int .i64 ((2 : Nat) : Int), .int .i64 ((0 : Nat) : Int)] ⟨0, .nil⟩ truthC = true := by decide +kernel
theorem lowerLimits_2_1 : callC Tryz.prog envK10 10000 1000 5 [.int .i64 ((2 : Nat) : Int), .int .i64 ((1 : Nat) : Int)] ⟨0, .nil⟩ truthC = true := by decide +kernel
theorem lowerLimits_2_2 : callC Tryz.prog envK10 10000 1000 5 [.int .i64 ((2 : Nat) : Int), .int .i64 ((2 : Nat) : Int)] ⟨0, .nil⟩ truthC = true := by decide +kernel
theorem lowerLimits_2_3 : callC Tryz.prog envK10 10000 1000 5 [.int .i64 ((2 : Nat) : Int), .int .i64 ((3 : Nat) : Int)] ⟨0, .nil⟩ truthC = true := by decide +kernel
theorem lowerLimits_2_4 : callC Tryz.prog envK10 10000 1000 5 [.int .i64 ((2 : Nat) : Int), .int .i64 ((4 : Nat) : Int)] ⟨0, .nil⟩ truthC = true := by decide +kernel
theorem lowerLimits_2_5 : callC Tryz.prog envK10 10000 1000 5 [.int .i64 ((2 : Nat) : Int), .int .i64 ((5 : Nat) : Int)] ⟨0, .nil⟩ truthC = true := by decide +kernel
theorem lowerLimits_2_6 : callC Tryz.prog envK10 10000 1000 5 [.int .i64 ((2 : Nat) : Int), .int .i64 ((6 : Nat) : Int)] ⟨0, .nil⟩ truthC = true := by decide +kernel
theorem lowerLimits_2_7 : callC Tryz.prog envK10 10000 1000 5 [.int .i64 ((2 : Nat) : Int), .int .i64 ((7 : Nat) : Int)] ⟨0, .nil⟩ truthC = true := by decide +kernel
theorem lowerLimits_2_8 : callC Tryz.prog envK10 10000 1000 5 [.int .i64 ((2 : Nat) : Int), .int .i64 ((8 : Nat) : Int)] ⟨0, .nil⟩ truthC = true := by decide +kernel
theorem lowerLimits_3_0 : callC Tryz.prog envK10 10000 1000 5 [.int .i64 ((3 : Nat) : Int), .int .i64 ((0 : Nat) : Int)] ⟨0, .nil⟩ truthC = true := by decide +kernel
theorem lowerLimits_3_1 : callC Tryz.prog envK10 10000 1000 5 [.int .i64 ((3 : Nat) : Int), .int .i64 ((1 : Nat) : Int)] ⟨0, .nil⟩ truthC = true := by decide +kernel
theorem lowerLimits_3_2 : callC Tryz.prog envK10 10000 1000 5 [.int .i64 ((3 : Nat) : Int), .int .i64 ((2 : Nat) : Int)] ⟨0, .nil⟩ truthC = true := by decide +kernel
theorem lowerLimits_3_3 : callC Tryz.prog envK10 10000 1000 5 [.int .i64 ((3 : Nat) : Int), .int .i64 ((3 : Nat) : Int)] ⟨0, .nil⟩ truthC = true := by decide +kernel
theorem lowerLimits_3_4 : callC Tryz.prog envK10 10000 1000 5 [.int .i64 ((3 : Nat) : Int), .int .i64 ((4 : Nat) : Int)] ⟨0, .nil⟩ truthC = true := by decide +kernel
theorem lowerLimits_3_5 : callC Tryz.prog envK10 10000 1000 5 [.int .i64 ((3 : Nat) : Int), .int .i64 ((5 : Nat) : Int)] ⟨0, .nil⟩ truthC = true := by decide +kernel
theorem lowerLimits_3_6 : callC Tryz.prog envK10 10000 1000 5 [.int .i64 ((3 : Nat) : Int), .int .i64 ((6 : Nat) : Int)] ⟨0, .nil⟩ truthC = true := by decide +kernel
theorem lowerLimits_3_7 : callC Tryz.prog envK10 10000 1000 5 [.int .i64 ((3 : Nat) : Int), .int .i64 ((7 : Nat) : Int)] ⟨0, .nil⟩ truthC = true := by decide +kernel
theorem lowerLimits_3_8 : callC Tryz.prog envK10 10000 1000 5 [.int .i64 ((3 : Nat) : Int), .int .i64 ((8 : Nat) : Int)] ⟨0, .nil⟩ truthC = true := by decide +kernel
theorem lowerLimits_4_0 : callC Tryz.prog envK10 10000 1000 5 [.int .i64 ((4 : Nat) : Int), .int .i64 ((0 : Nat) : Int)] ⟨0, .nil⟩ truthC = true := by decide +kernel
theorem lowerLimits_4_1 : callC Tryz.prog envK10 10000 1000 5 [.int .i64 ((4 : Nat) : Int), .int .i64 ((1 : Nat) : Int)] ⟨0, .nil⟩ truthC = true := by decide +kernel
theorem lowerLimits_4_2 : callC Tryz.prog envK10 10000 1000 5 [.int .i64 ((4 : Nat) : Int), .int .i64 ((2 : Nat) : Int)] ⟨0, .nil⟩ truthC = true := by decide +kernel
theorem lowerLimits_4_3 : callC Tryz.prog envK10 10000 1000 5 [.int .i64 ((4 : Nat) : Int), .int .i64 ((3 : Nat) : Int)] ⟨0, .nil⟩ truthC = true := by decide +kernel
theorem lowerLimits_4_4 : callC Tryz.prog envK10 10000 1000 5 [.int .i64 ((4 : Nat) : Int), .int .i64 ((4 : Nat) : Int)] ⟨0, .nil⟩ truthC = true := by decide +kernel
theorem lowerLimits_4_5 : callC Tryz.prog envK10 10000 1000 5 [.int .i64 ((4 : Nat) : Int), .int .i64 ((5 : Nat) : Int)] ⟨0, .nil⟩ truthC = true := by decide +kernel
theorem lowerLimits_4_6 : callC Tryz.prog envK10 10000 1000 5 [.int .i64 ((4 : Nat) : Int), .int .i64 ((6 : Nat) : Int)] ⟨0, .nil⟩ truthC = true := by decide +kernel
theorem lowerLimits_4_7 : callC Tryz.prog envK10 10000 1000 5 [.int .i64 ((4 : Nat) : Int), .int .i64 ((7 : Nat) : Int)] ⟨0, .nil⟩ truthC = true := by decide +kernel
theorem lowerLimits_4_8 : callC Tryz.prog envK10 10000 1000 5 [.int .i64 ((4 : Nat) : Int), .int .i64 ((8 : Nat) : Int)] ⟨0, .nil⟩ truthC = true := by decide +kernel

end Go.Proofs.YtaoglicedcgnoaaGreatDoor
