/-
  'LowerLimits', reckoned: first parameter 10 to 14.
-/
import Derived.Test.YtaoglicedcgnoaaGreatDoorKnown10
namespace Go.Proofs.YtaoglicedcgnoaaGreatDoor
open Go
set_option maxRecDepth 1000000

theorem lowerLimits_10_0 : callC Tryz.prog envK10 10000 1000 5 [.int .i64 ((10 : Nat) : Int), .int .i64 ((0 : Nat) : Int)] ⟨0, .nil⟩ truthC = true := by decide +kernel
theorem lowerLimits_10_1 : callC Tryz.prog envK10 10000 1000 5 [.int .i64 ((10 : Nat) : Int), .int .i64 ((1 : Nat) : Int)] ⟨0, .nil⟩ truthC = true := by decide +kernel
theorem lowerLimits_10_2 : callC Tryz.prog envK10 10000 1000 5 [.int .i64 ((10 : Nat) : Int), .int .i64 ((2 : Nat) : Int)] ⟨0, .nil⟩ truthC = true := by decide +kernel
theorem lowerLimits_10_3 : callC Tryz.prog envK10 10000 1000 5 [.int .i64 ((10 : Nat) : Int), .int .i64 ((3 : Nat) : Int)] ⟨0, .nil⟩ truthC = true := by decide +kernel
theorem lowerLimits_10_4 : callC Tryz.prog envK10 10000 1000 5 [.int .i64 ((10 : Nat) : Int), .int .i64 ((4 : Nat) : Int)] ⟨0, .nil⟩ truthC = true := by decide +kernel
theorem lowerLimits_10_5 : callC Tryz.prog envK10 10000 1000 5 [.int .i64 ((10 : Nat) : Int), .int .i64 ((5 : Nat) : Int)] ⟨0, .nil⟩ truthC = true := by decide +kernel
theorem lowerLimits_10_6 : callC Tryz.prog envK10 10000 1000 5 [.int .i64 ((10 : Nat) : Int), .int .i64 ((6 : Nat) : Int)] ⟨0, .nil⟩ truthC = true := by decide +kernel
theorem lowerLimits_10_7 : callC Tryz.prog envK10 10000 1000 5 [.int .i64 ((10 : Nat) : Int), .int .i64 ((7 : Nat) : Int)] ⟨0, .nil⟩ truthC = true := by decide +kernel
theorem lowerLimits_10_8 : callC Tryz.prog envK10 10000 1000 5 [.int .i64 ((10 : Nat) : Int), .int .i64 ((8 : Nat) : Int)] ⟨0, .nil⟩ truthC = true := by decide +kernel
theorem lowerLimits_11_0 : callC Tryz.prog envK10 10000 1000 5 [.int .i64 ((11 : Nat) : Int), .int .i64 ((0 : Nat) : Int)] ⟨0, .nil⟩ truthC = true := by decide +kernel
theorem lowerLimits_11_1 : callC Tryz.prog envK10 10000 1000 5 [.int .i64 ((11 : Nat) : Int), .int .i64 ((1 : Nat) : Int)] ⟨0, .nil⟩ truthC = true := by decide +kernel
theorem lowerLimits_11_2 : callC Tryz.prog envK10 10000 1000 5 [.int .i64 ((11 : Nat) : Int), .int .i64 ((2 : Nat) : Int)] ⟨0, .nil⟩ truthC = true := by decide +kernel
theorem lowerLimits_11_3 : callC Tryz.prog envK10 10000 1000 5 [.int .i64 ((11 : Nat) : Int), .int .i64 ((3 : Nat) : Int)] ⟨0, .nil⟩ truthC = true := by decide +kernel
theorem lowerLimits_11_4 : callC Tryz.prog envK10 10000 1000 5 [.int .i64 ((11 : Nat) : Int), .int .i64 ((4 : Nat) : Int)] ⟨0, .nil⟩ truthC = true := by decide +kernel
theorem lowerLimits_11_5 : callC Tryz.prog envK10 10000 1000 5 [.int .i64 ((11 : Nat) : Int), .int .i64 ((5 : Nat) : Int)] ⟨0, .nil⟩ truthC = true := by decide +kernel
theorem lowerLimits_11_6 : callC Tryz.prog envK10 10000 1000 5 [.int .i64 ((11 : Nat) : Int), .int .i64 ((6 : Nat) : Int)] ⟨0, .nil⟩ truthC = true := by decide +kernel
theorem lowerLimits_11_7 : callC Tryz.prog envK10 10000 1000 5 [.int .i64 ((11 : Nat) : Int), .int .i64 ((7 : Nat) : Int)] ⟨0, .nil⟩ truthC = true := by decide +kernel
theorem lowerLimits_11_8 : callC Tryz.prog envK10 10000 1000 5 [.int .i64 ((11 : Nat) : Int), .int .i64 ((8 : Nat) : Int)] ⟨0, .nil⟩ truthC = true := by decide +kernel
theorem lowerLimits_12_0 : callC Tryz.prog envK10 10000 1000 5 [.int .i64 ((12 : Nat) : Int), .int .i64 ((0 : Nat) : Int)] ⟨0, .nil⟩ truthC = true := by decide +kernel
theorem lowerLimits_12_1 : callC Tryz.prog envK10 10000 1000 5 [.int .i64 ((12 : Nat) : Int), .int .i64 ((1 : Nat) : Int)] ⟨0, .nil⟩ truthC = true := by decide +kernel
theorem lowerLimits_12_2 : callC Tryz.prog envK10 10000 1000 5 [.int .i64 ((12 : Nat) : Int), .int .i64 ((2 : Nat) : Int)] ⟨0, .nil⟩ truthC = true := by decide +kernel
theorem lowerLimits_12_3 : callC Tryz.prog envK10 10000 1000 5 [.int .i64 ((12 : Nat) : Int), .int .i64 ((3 : Nat) : Int)] ⟨0, .nil⟩ truthC = true := by decide +kernel
theorem lowerLimits_12_4 : callC Tryz.prog envK10 10000 1000 5 [.int .i64 ((12 : Nat) : Int), .int .i64 ((4 : Nat) : Int)] ⟨0, .nil⟩ truthC = true := by decide +kernel
theorem lowerLimits_12_5 : callC Tryz.prog envK10 10000 1000 5 [.int .i64 ((12 : Nat) : Int), .int .i64 ((5 : Nat) : Int)] ⟨0, .nil⟩ truthC = true := by decide +kernel
theorem lowerLimits_12_6 : callC Tryz.prog envK10 10000 1000 5 [.int .i64 ((12 : Nat) : Int), .int .i64 ((6 : Nat) : Int)] ⟨0, .nil⟩ truthC = true := by decide +kernel
theorem lowerLimits_12_7 : callC Tryz.prog envK10 10000 1000 5 [.int .i64 ((12 : Nat) : Int), .int .i64 ((7 : Nat) : Int)] ⟨0, .nil⟩ truthC = true := by decide +kernel
theorem lowerLimits_12_8 : callC Tryz.prog envK10 10000 1000 5 [.int .i64 ((12 : Nat) : Int), .int .i64 ((8 : Nat) : Int)] ⟨0, .nil⟩ truthC = true := by decide +kernel
theorem lowerLimits_13_0 : callC Tryz.prog envK10 10000 1000 5 [.int .i64 ((13 : Nat) : Int), .int .i64 ((0 : Nat) : Int)] ⟨0, .nil⟩ truthC = true := by decide +kernel
theorem lowerLimits_13_1 : callC Tryz.prog envK10 10000 1000 5 [.int .i64 ((13 : Nat) : Int), .int .i64 ((1 : Nat) : Int)] ⟨0, .nil⟩ truthC = true := by decide +kernel
theorem lowerLimits_13_2 : callC Tryz.prog envK10 10000 1000 5 [.int .i64 ((13 : Nat) : Int), .int .i64 ((2 : Nat) : Int)] ⟨0, .nil⟩ truthC = true := by decide +kernel
theorem lowerLimits_13_3 : callC Tryz.prog envK10 10000 1000 5 [.int .i64 ((13 : Nat) : Int), .int .i64 ((3 : Nat) : Int)] ⟨0, .nil⟩ truthC = true := by decide +kernel
theorem lowerLimits_13_4 : callC Tryz.prog envK10 10000 1000 5 [.int .i64 ((13 : Nat) : Int), .int .i64 ((4 : Nat) : Int)] ⟨0, .nil⟩ truthC = true := by decide +kernel
theorem lowerLimits_13_5 : callC Tryz.prog envK10 10000 1000 5 [.int .i64 ((13 : Nat) : Int), .int .i64 ((5 : Nat) : Int)] ⟨0, .nil⟩ truthC = true := by decide +kernel
theorem lowerLimits_13_6 : callC Tryz.prog envK10 10000 1000 5 [.int .i64 ((13 : Nat) : Int), .int .i64 ((6 : Nat) : Int)] ⟨0, .nil⟩ truthC = true := by decide +kernel
theorem lowerLimits_13_7 : callC Tryz.prog envK10 10000 1000 5 [.int .i64 ((13 : Nat) : Int), .int .i64 ((7 : Nat) : Int)] ⟨0, .nil⟩ truthC = true := by decide +kernel
theorem lowerLimits_13_8 : callC Tryz.prog envK10 10000 1000 5 [.int .i64 ((13 : Nat) : Int), .int .i64 ((8 : Nat) : Int)] ⟨0, .nil⟩ truthC = true := by decide +kernel
theorem lowerLimits_14_0 : callC Tryz.prog envK10 10000 1000 5 [.int .i64 ((14 : Nat) : Int), .int .i64 ((0 : Nat) : Int)] ⟨0, .nil⟩ truthC = true := by decide +kernel
theorem lowerLimits_14_1 : callC Tryz.prog envK10 10000 1000 5 [.int .i64 ((14 : Nat) : Int), .int .i64 ((1 : Nat) : Int)] ⟨0, .nil⟩ truthC = true := by decide +kernel
theorem lowerLimits_14_2 : callC Tryz.prog envK10 10000 1000 5 [.int .i64 ((14 : Nat) : Int), .int .i64 ((2 : Nat) : Int)] ⟨0, .nil⟩ truthC = true := by decide +kernel
theorem lowerLimits_14_3 : callC Tryz.prog envK10 10000 1000 5 [.int .i64 ((14 : Nat) : Int), .int .i64 ((3 : Nat) : Int)] ⟨0, .nil⟩ truthC = true := by decide +kernel
theorem lowerLimits_14_4 : callC Tryz.prog envK10 10000 1000 5 [.int .i64 ((14 : Nat) : Int), .int .i64 ((4 : Nat) : Int)] ⟨0, .nil⟩ truthC = true := by decide +kernel
theorem lowerLimits_14_5 : callC Tryz.prog envK10 10000 1000 5 [.int .i64 ((14 : Nat) : Int), .int .i64 ((5 : Nat) : Int)] ⟨0, .nil⟩ truthC = true := by decide +kernel
theorem lowerLimits_14_6 : callC Tryz.prog envK10 10000 1000 5 [.int .i64 ((14 : Nat) : Int), .int .i64 ((6 : Nat) : Int)] ⟨0, .nil⟩ truthC = true := by decide +kernel
theorem lowerLimits_14_7 : callC Tryz.prog envK10 10000 1000 5 [.int .i64 ((14 : Nat) : Int), .int .i64 ((7 : Nat) : Int)] ⟨0, .nil⟩ truthC = true := by decide +kernel
theorem lowerLimits_14_8 : callC Tryz.prog envK10 10000 1000 5 [.int .i64 ((14 : Nat) : Int), .int .i64 ((8 : Nat) : Int)] ⟨0, .nil⟩ truthC = true := by decide +kernel

end Go.Proofs.YtaoglicedcgnoaaGreatDoor
