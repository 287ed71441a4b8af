/-
  'LowerLimits', reckoned: first parameter 30 to 34.
-/
import Derived.Test.YtaoglicedcgnoaaGreatDoorKnown10
namespace Go.Proofs.YtaoglicedcgnoaaGreatDoor
open Go
set_option maxRecDepth 1000000

theorem lowerLimits_30_0 : callC Tryz.prog envK10 10000 1000 5 [.int .i64 ((30 : Nat) : Int), .int .i64 ((0 : Nat) : Int)] ⟨0, .nil⟩ truthC = true := by decide +kernel
theorem lowerLimits_30_1 : callC Tryz.prog envK10 10000 1000 5 [.int .i64 ((30 : Nat) : Int), .int .i64 ((1 : Nat) : Int)] ⟨0, .nil⟩ truthC = true := by decide +kernel
theorem lowerLimits_30_2 : callC Tryz.prog envK10 10000 1000 5 [.int .i64 ((30 : Nat) : Int), .int .i64 ((2 : Nat) : Int)] ⟨0, .nil⟩ truthC = true := by decide +kernel
theorem lowerLimits_30_3 : callC Tryz.prog envK10 10000 1000 5 [.int .i64 ((30 : Nat) : Int), .int .i64 ((3 : Nat) : Int)] ⟨0, .nil⟩ truthC = true := by decide +kernel
theorem lowerLimits_30_4 : callC Tryz.prog envK10 10000 1000 5 [.int .i64 ((30 : Nat) : Int), .int .i64 ((4 : Nat) : Int)] ⟨0, .nil⟩ truthC = true := by decide +kernel
theorem lowerLimits_30_5 : callC Tryz.prog envK10 10000 1000 5 [.int .i64 ((30 : Nat) : Int), .int .i64 ((5 : Nat) : Int)] ⟨0, .nil⟩ truthC = true := by decide +kernel
theorem lowerLimits_30_6 : callC Tryz.prog envK10 10000 1000 5 [.int .i64 ((30 : Nat) : Int), .int .i64 ((6 : Nat) : Int)] ⟨0, .nil⟩ truthC = true := by decide +kernel
theorem lowerLimits_30_7 : callC Tryz.prog envK10 10000 1000 5 [.int .i64 ((30 : Nat) : Int), .int .i64 ((7 : Nat) : Int)] ⟨0, .nil⟩ truthC = true := by decide +kernel
theorem lowerLimits_30_8 : callC Tryz.prog envK10 10000 1000 5 [.int .i64 ((30 : Nat) : Int), .int .i64 ((8 : Nat) : Int)] ⟨0, .nil⟩ truthC = true := by decide +kernel
theorem lowerLimits_31_0 : callC Tryz.prog envK10 10000 1000 5 [.int .i64 ((31 : Nat) : Int), .int .i64 ((0 : Nat) : Int)] ⟨0, .nil⟩ truthC = true := by decide +kernel
theorem lowerLimits_31_1 : callC Tryz.prog envK10 10000 1000 5 [.int .i64 ((31 : Nat) : Int), .int .i64 ((1 : Nat) : Int)] ⟨0, .nil⟩ truthC = true := by decide +kernel
theorem lowerLimits_31_2 : callC Tryz.prog envK10 10000 1000 5 [.int .i64 ((31 : Nat) : Int), .int .i64 ((2 : Nat) : Int)] ⟨0, .nil⟩ truthC = true := by decide +kernel
theorem lowerLimits_31_3 : callC Tryz.prog envK10 10000 1000 5 [.int .i64 ((31 : Nat) : Int), .int .i64 ((3 : Nat) : Int)] ⟨0, .nil⟩ truthC = true := by decide +kernel
theorem lowerLimits_31_4 : callC Tryz.prog envK10 10000 1000 5 [.int .i64 ((31 : Nat) : Int), .int .i64 ((4 : Nat) : Int)] ⟨0, .nil⟩ truthC = true := by decide +kernel
theorem lowerLimits_31_5 : callC Tryz.prog envK10 10000 1000 5 [.int .i64 ((31 : Nat) : Int), .int .i64 ((5 : Nat) : Int)] ⟨0, .nil⟩ truthC = true := by decide +kernel
theorem lowerLimits_31_6 : callC Tryz.prog envK10 10000 1000 5 [.int .i64 ((31 : Nat) : Int), .int .i64 ((6 : Nat) : Int)] ⟨0, .nil⟩ truthC = true := by decide +kernel
theorem lowerLimits_31_7 : callC Tryz.prog envK10 10000 1000 5 [.int .i64 ((31 : Nat) : Int), .int .i64 ((7 : Nat) : Int)] ⟨0, .nil⟩ truthC = true := by decide +kernel
theorem lowerLimits_31_8 : callC Tryz.prog envK10 10000 1000 5 [.int .i64 ((31 : Nat) : Int), .int .i64 ((8 : Nat) : Int)] ⟨0, .nil⟩ truthC = true := by decide +kernel
theorem lowerLimits_32_0 : callC Tryz.prog envK10 10000 1000 5 [.int .i64 ((32 : Nat) : Int), .int .i64 ((0 : Nat) : Int)] ⟨0, .nil⟩ truthC = true := by decide +kernel
theorem lowerLimits_32_1 : callC Tryz.prog envK10 10000 1000 5 [.int .i64 ((32 : Nat) : Int), .int .i64 ((1 : Nat) : Int)] ⟨0, .nil⟩ truthC = true := by decide +kernel
theorem lowerLimits_32_2 : callC Tryz.prog envK10 10000 1000 5 [.int .i64 ((32 : Nat) : Int), .int .i64 ((2 : Nat) : Int)] ⟨0, .nil⟩ truthC = true := by decide +kernel
theorem lowerLimits_32_3 : callC Tryz.prog envK10 10000 1000 5 [.int .i64 ((32 : Nat) : Int), .int .i64 ((3 : Nat) : Int)] ⟨0, .nil⟩ truthC = true := by decide +kernel
theorem lowerLimits_32_4 : callC Tryz.prog envK10 10000 1000 5 [.int .i64 ((32 : Nat) : Int), .int .i64 ((4 : Nat) : Int)] ⟨0, .nil⟩ truthC = true := by decide +kernel
theorem lowerLimits_32_5 : callC Tryz.prog envK10 10000 1000 5 [.int .i64 ((32 : Nat) : Int), .int .i64 ((5 : Nat) : Int)] ⟨0, .nil⟩ truthC = true := by decide +kernel
theorem lowerLimits_32_6 : callC Tryz.prog envK10 10000 1000 5 [.int .i64 ((32 : Nat) : Int), .int .i64 ((6 : Nat) : Int)] ⟨0, .nil⟩ truthC = true := by decide +kernel
theorem lowerLimits_32_7 : callC Tryz.prog envK10 10000 1000 5 [.int .i64 ((32 : Nat) : Int), .int .i64 ((7 : Nat) : Int)] ⟨0, .nil⟩ truthC = true := by decide +kernel
theorem lowerLimits_32_8 : callC Tryz.prog envK10 10000 1000 5 [.int .i64 ((32 : Nat) : Int), .int .i64 ((8 : Nat) : Int)] ⟨0, .nil⟩ truthC = true := by decide +kernel
theorem lowerLimits_33_0 : callC Tryz.prog envK10 10000 1000 5 [.int .i64 ((33 : Nat) : Int), .int .i64 ((0 : Nat) : Int)] ⟨0, .nil⟩ truthC = true := by decide +kernel
theorem lowerLimits_33_1 : callC Tryz.prog envK10 10000 1000 5 [.int .i64 ((33 : Nat) : Int), .int .i64 ((1 : Nat) : Int)] ⟨0, .nil⟩ truthC = true := by decide +kernel
theorem lowerLimits_33_2 : callC Tryz.prog envK10 10000 1000 5 [.int .i64 ((33 : Nat) : Int), .int .i64 ((2 : Nat) : Int)] ⟨0, .nil⟩ truthC = true := by decide +kernel
theorem lowerLimits_33_3 : callC Tryz.prog envK10 10000 1000 5 [.int .i64 ((33 : Nat) : Int), .int .i64 ((3 : Nat) : Int)] ⟨0, .nil⟩ truthC = true := by decide +kernel
theorem lowerLimits_33_4 : callC Tryz.prog envK10 10000 1000 5 [.int .i64 ((33 : Nat) : Int), .int .i64 ((4 : Nat) : Int)] ⟨0, .nil⟩ truthC = true := by decide +kernel
theorem lowerLimits_33_5 : callC Tryz.prog envK10 10000 1000 5 [.int .i64 ((33 : Nat) : Int), .int .i64 ((5 : Nat) : Int)] ⟨0, .nil⟩ truthC = true := by decide +kernel
theorem lowerLimits_33_6 : callC Tryz.prog envK10 10000 1000 5 [.int .i64 ((33 : Nat) : Int), .int .i64 ((6 : Nat) : Int)] ⟨0, .nil⟩ truthC = true := by decide +kernel
theorem lowerLimits_33_7 : callC Tryz.prog envK10 10000 1000 5 [.int .i64 ((33 : Nat) : Int), .int .i64 ((7 : Nat) : Int)] ⟨0, .nil⟩ truthC = true := by decide +kernel
theorem lowerLimits_33_8 : callC Tryz.prog envK10 10000 1000 5 [.int .i64 ((33 : Nat) : Int), .int .i64 ((8 : Nat) : Int)] ⟨0, .nil⟩ truthC = true := by decide +kernel
theorem lowerLimits_34_0 : callC Tryz.prog envK10 10000 1000 5 [.int .i64 ((34 : Nat) : Int), .int .i64 ((0 : Nat) : Int)] ⟨0, .nil⟩ truthC = true := by decide +kernel
theorem lowerLimits_34_1 : callC Tryz.prog envK10 10000 1000 5 [.int .i64 ((34 : Nat) : Int), .int .i64 ((1 : Nat) : Int)] ⟨0, .nil⟩ truthC = true := by decide +kernel
theorem lowerLimits_34_2 : callC Tryz.prog envK10 10000 1000 5 [.int .i64 ((34 : Nat) : Int), .int .i64 ((2 : Nat) : Int)] ⟨0, .nil⟩ truthC = true := by decide +kernel
theorem lowerLimits_34_3 : callC Tryz.prog envK10 10000 1000 5 [.int .i64 ((34 : Nat) : Int), .int .i64 ((3 : Nat) : Int)] ⟨0, .nil⟩ truthC = true := by decide +kernel
theorem lowerLimits_34_4 : callC Tryz.prog envK10 10000 1000 5 [.int .i64 ((34 : Nat) : Int), .int .i64 ((4 : Nat) : Int)] ⟨0, .nil⟩ truthC = true := by decide +kernel
theorem lowerLimits_34_5 : callC Tryz.prog envK10 10000 1000 5 [.int .i64 ((34 : Nat) : Int), .int .i64 ((5 : Nat) : Int)] ⟨0, .nil⟩ truthC = true := by decide +kernel
theorem lowerLimits_34_6 : callC Tryz.prog envK10 10000 1000 5 [.int .i64 ((34 : Nat) : Int), .int .i64 ((6 : Nat) : Int)] ⟨0, .nil⟩ truthC = true := by decide +kernel
theorem lowerLimits_34_7 : callC Tryz.prog envK10 10000 1000 5 [.int .i64 ((34 : Nat) : Int), .int .i64 ((7 : Nat) : Int)] ⟨0, .nil⟩ truthC = true := by decide +kernel
theorem lowerLimits_34_8 : callC Tryz.prog envK10 10000 1000 5 [.int .i64 ((34 : Nat) : Int), .int .i64 ((8 : Nat) : Int)] ⟨0, .nil⟩ truthC = true := by decide +kernel

end Go.Proofs.YtaoglicedcgnoaaGreatDoor
