/-
  'LowerLimits', reckoned: first parameter 20 to 24.
-/
import Derived.Test.YtaoglicedcgnoaaGreatDoorKnown10
namespace Go.Proofs.YtaoglicedcgnoaaGreatDoor
open Go
set_option maxRecDepth 1000000

theorem lowerLimits_20_0 : callC Tryz.prog envK10 10000 1000 5 [.int .i64 ((20 : Nat) : Int), .int .i64 ((0 : Nat) : Int)] ⟨0, .nil⟩ truthC = true := by decide +kernel
theorem lowerLimits_20_1 : callC Tryz.prog envK10 10000 1000 5 [.int .i64 ((20 : Nat) : Int), .int .i64 ((1 : Nat) : Int)] ⟨0, .nil⟩ truthC = true := by decide +kernel
theorem lowerLimits_20_2 : callC Tryz.prog envK10 10000 1000 5 [.int .i64 ((20 : Nat) : Int), .int .i64 ((2 : Nat) : Int)] ⟨0, .nil⟩ truthC = true := by decide +kernel
theorem lowerLimits_20_3 : callC Tryz.prog envK10 10000 1000 5 [.int .i64 ((20 : Nat) : Int), .int .i64 ((3 : Nat) : Int)] ⟨0, .nil⟩ truthC = true := by decide +kernel
theorem lowerLimits_20_4 : callC Tryz.prog envK10 10000 1000 5 [.int .i64 ((20 : Nat) : Int), .int .i64 ((4 : Nat) : Int)] ⟨0, .nil⟩ truthC = true := by decide +kernel
theorem lowerLimits_20_5 : callC Tryz.prog envK10 10000 1000 5 [.int .i64 ((20 : Nat) : Int), .int .i64 ((5 : Nat) : Int)] ⟨0, .nil⟩ truthC = true := by decide +kernel
theorem lowerLimits_20_6 : callC Tryz.prog envK10 10000 1000 5 [.int .i64 ((20 : Nat) : Int), .int .i64 ((6 : Nat) : Int)] ⟨0, .nil⟩ truthC = true := by decide +kernel
theorem lowerLimits_20_7 : callC Tryz.prog envK10 10000 1000 5 [.int .i64 ((20 : Nat) : Int), .int .i64 ((7 : Nat) : Int)] ⟨0, .nil⟩ truthC = true := by decide +kernel
theorem lowerLimits_20_8 : callC Tryz.prog envK10 10000 1000 5 [.int .i64 ((20 : Nat) : Int), .int .i64 ((8 : Nat) : Int)] ⟨0, .nil⟩ truthC = true := by decide +kernel
theorem lowerLimits_21_0 : callC Tryz.prog envK10 10000 1000 5 [.int .i64 ((21 : Nat) : Int), .int .i64 ((0 : Nat) : Int)] ⟨0, .nil⟩ truthC = true := by decide +kernel
theorem lowerLimits_21_1 : callC Tryz.prog envK10 10000 1000 5 [.int .i64 ((21 : Nat) : Int), .int .i64 ((1 : Nat) : Int)] ⟨0, .nil⟩ truthC = true := by decide +kernel
theorem lowerLimits_21_2 : callC Tryz.prog envK10 10000 1000 5 [.int .i64 ((21 : Nat) : Int), .int .i64 ((2 : Nat) : Int)] ⟨0, .nil⟩ truthC = true := by decide +kernel
theorem lowerLimits_21_3 : callC Tryz.prog envK10 10000 1000 5 [.int .i64 ((21 : Nat) : Int), .int .i64 ((3 : Nat) : Int)] ⟨0, .nil⟩ truthC = true := by decide +kernel
theorem lowerLimits_21_4 : callC Tryz.prog envK10 10000 1000 5 [.int .i64 ((21 : Nat) : Int), .int .i64 ((4 : Nat) : Int)] ⟨0, .nil⟩ truthC = true := by decide +kernel
theorem lowerLimits_21_5 : callC Tryz.prog envK10 10000 1000 5 [.int .i64 ((21 : Nat) : Int), .int .i64 ((5 : Nat) : Int)] ⟨0, .nil⟩ truthC = true := by decide +kernel
theorem lowerLimits_21_6 : callC Tryz.prog envK10 10000 1000 5 [.int .i64 ((21 : Nat) : Int), .int .i64 ((6 : Nat) : Int)] ⟨0, .nil⟩ truthC = true := by decide +kernel
theorem lowerLimits_21_7 : callC Tryz.prog envK10 10000 1000 5 [.int .i64 ((21 : Nat) : Int), .int .i64 ((7 : Nat) : Int)] ⟨0, .nil⟩ truthC = true := by decide +kernel
theorem lowerLimits_21_8 : callC Tryz.prog envK10 10000 1000 5 [.int .i64 ((21 : Nat) : Int), .int .i64 ((8 : Nat) : Int)] ⟨0, .nil⟩ truthC = true := by decide +kernel
theorem lowerLimits_22_0 : callC Tryz.prog envK10 10000 1000 5 [.int .i64 ((22 : Nat) : Int), .int .i64 ((0 : Nat) : Int)] ⟨0, .nil⟩ truthC = true := by decide +kernel
theorem lowerLimits_22_1 : callC Tryz.prog envK10 10000 1000 5 [.int .i64 ((22 : Nat) : Int), .int .i64 ((1 : Nat) : Int)] ⟨0, .nil⟩ truthC = true := by decide +kernel
theorem lowerLimits_22_2 : callC Tryz.prog envK10 10000 1000 5 [.int .i64 ((22 : Nat) : Int), .int .i64 ((2 : Nat) : Int)] ⟨0, .nil⟩ truthC = true := by decide +kernel
theorem lowerLimits_22_3 : callC Tryz.prog envK10 10000 1000 5 [.int .i64 ((22 : Nat) : Int), .int .i64 ((3 : Nat) : Int)] ⟨0, .nil⟩ truthC = true := by decide +kernel
theorem lowerLimits_22_4 : callC Tryz.prog envK10 10000 1000 5 [.int .i64 ((22 : Nat) : Int), .int .i64 ((4 : Nat) : Int)] ⟨0, .nil⟩ truthC = true := by decide +kernel
theorem lowerLimits_22_5 : callC Tryz.prog envK10 10000 1000 5 [.int .i64 ((22 : Nat) : Int), .int .i64 ((5 : Nat) : Int)] ⟨0, .nil⟩ truthC = true := by decide +kernel
theorem lowerLimits_22_6 : callC Tryz.prog envK10 10000 1000 5 [.int .i64 ((22 : Nat) : Int), .int .i64 ((6 : Nat) : Int)] ⟨0, .nil⟩ truthC = true := by decide +kernel
theorem lowerLimits_22_7 : callC Tryz.prog envK10 10000 1000 5 [.int .i64 ((22 : Nat) : Int), .int .i64 ((7 : Nat) : Int)] ⟨0, .nil⟩ truthC = true := by decide +kernel
theorem lowerLimits_22_8 : callC Tryz.prog envK10 10000 1000 5 [.int .i64 ((22 : Nat) : Int), .int .i64 ((8 : Nat) : Int)] ⟨0, .nil⟩ truthC = true := by decide +kernel
theorem lowerLimits_23_0 : callC Tryz.prog envK10 10000 1000 5 [.int .i64 ((23 : Nat) : Int), .int .i64 ((0 : Nat) : Int)] ⟨0, .nil⟩ truthC = true := by decide +kernel
theorem lowerLimits_23_1 : callC Tryz.prog envK10 10000 1000 5 [.int .i64 ((23 : Nat) : Int), .int .i64 ((1 : Nat) : Int)] ⟨0, .nil⟩ truthC = true := by decide +kernel
theorem lowerLimits_23_2 : callC Tryz.prog envK10 10000 1000 5 [.int .i64 ((23 : Nat) : Int), .int .i64 ((2 : Nat) : Int)] ⟨0, .nil⟩ truthC = true := by decide +kernel
theorem lowerLimits_23_3 : callC Tryz.prog envK10 10000 1000 5 [.int .i64 ((23 : Nat) : Int), .int .i64 ((3 : Nat) : Int)] ⟨0, .nil⟩ truthC = true := by decide +kernel
theorem lowerLimits_23_4 : callC Tryz.prog envK10 10000 1000 5 [.int .i64 ((23 : Nat) : Int), .int .i64 ((4 : Nat) : Int)] ⟨0, .nil⟩ truthC = true := by decide +kernel
theorem lowerLimits_23_5 : callC Tryz.prog envK10 10000 1000 5 [.int .i64 ((23 : Nat) : Int), .int .i64 ((5 : Nat) : Int)] ⟨0, .nil⟩ truthC = true := by decide +kernel
theorem lowerLimits_23_6 : callC Tryz.prog envK10 10000 1000 5 [.int .i64 ((23 : Nat) : Int), .int .i64 ((6 : Nat) : Int)] ⟨0, .nil⟩ truthC = true := by decide +kernel
theorem lowerLimits_23_7 : callC Tryz.prog envK10 10000 1000 5 [.int .i64 ((23 : Nat) : Int), .int .i64 ((7 : Nat) : Int)] ⟨0, .nil⟩ truthC = true := by decide +kernel
theorem lowerLimits_23_8 : callC Tryz.prog envK10 10000 1000 5 [.int .i64 ((23 : Nat) : Int), .int .i64 ((8 : Nat) : Int)] ⟨0, .nil⟩ truthC = true := by decide +kernel
theorem lowerLimits_24_0 : callC Tryz.prog envK10 10000 1000 5 [.int .i64 ((24 : Nat) : Int), .int .i64 ((0 : Nat) : Int)] ⟨0, .nil⟩ truthC = true := by decide +kernel
theorem lowerLimits_24_1 : callC Tryz.prog envK10 10000 1000 5 [.int .i64 ((24 : Nat) : Int), .int .i64 ((1 : Nat) : Int)] ⟨0, .nil⟩ truthC = true := by decide +kernel
theorem lowerLimits_24_2 : callC Tryz.prog envK10 10000 1000 5 [.int .i64 ((24 : Nat) : Int), .int .i64 ((2 : Nat) : Int)] ⟨0, .nil⟩ truthC = true := by decide +kernel
theorem lowerLimits_24_3 : callC Tryz.prog envK10 10000 1000 5 [.int .i64 ((24 : Nat) : Int), .int .i64 ((3 : Nat) : Int)] ⟨0, .nil⟩ truthC = true := by decide +kernel
theorem lowerLimits_24_4 : callC Tryz.prog envK10 10000 1000 5 [.int .i64 ((24 : Nat) : Int), .int .i64 ((4 : Nat) : Int)] ⟨0, .nil⟩ truthC = true := by decide +kernel
theorem lowerLimits_24_5 : callC Tryz.prog envK10 10000 1000 5 [.int .i64 ((24 : Nat) : Int), .int .i64 ((5 : Nat) : Int)] ⟨0, .nil⟩ truthC = true := by decide +kernel
theorem lowerLimits_24_6 : callC Tryz.prog envK10 10000 1000 5 [.int .i64 ((24 : Nat) : Int), .int .i64 ((6 : Nat) : Int)] ⟨0, .nil⟩ truthC = true := by decide +kernel
theorem lowerLimits_24_7 : callC Tryz.prog envK10 10000 1000 5 [.int .i64 ((24 : Nat) : Int), .int .i64 ((7 : Nat) : Int)] ⟨0, .nil⟩ truthC = true := by decide +kernel
theorem lowerLimits_24_8 : callC Tryz.prog envK10 10000 1000 5 [.int .i64 ((24 : Nat) : Int), .int .i64 ((8 : Nat) : Int)] ⟨0, .nil⟩ truthC = true := by decide +kernel

end Go.Proofs.YtaoglicedcgnoaaGreatDoor
