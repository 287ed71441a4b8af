/-
  'LowerLimits', reckoned: first parameter 5 to 9.
-/
import Derived.Test.YtaoglicedcgnoaaGreatDoorKnown10
namespace Go.Proofs.YtaoglicedcgnoaaGreatDoor
open Go
set_option maxRecDepth 1000000

theorem lowerLimits_5_0 : callC Tryz.prog envK10 10000 1000 5 [.int .i64 ((5 : Nat) : Int), .int .i64 ((0 : Nat) : Int)] ⟨0, .nil⟩ truthC = true := by decide +kernel
theorem lowerLimits_5_1 : callC Tryz.prog envK10 10000 1000 5 [.int .i64 ((5 : Nat) : Int), .int .i64 ((1 : Nat) : Int)] ⟨0, .nil⟩ truthC = true := by decide +kernel
theorem lowerLimits_5_2 : callC Tryz.prog envK10 10000 1000 5 [.int .i64 ((5 : Nat) : Int), .int .i64 ((2 : Nat) : Int)] ⟨0, .nil⟩ truthC = true := by decide +kernel
theorem lowerLimits_5_3 : callC Tryz.prog envK10 10000 1000 5 [.int .i64 ((5 : Nat) : Int), .int .i64 ((3 : Nat) : Int)] ⟨0, .nil⟩ truthC = true := by decide +kernel
theorem lowerLimits_5_4 : callC Tryz.prog envK10 10000 1000 5 [.int .i64 ((5 : Nat) : Int), .int .i64 ((4 : Nat) : Int)] ⟨0, .nil⟩ truthC = true := by decide +kernel
theorem lowerLimits_5_5 : callC Tryz.prog envK10 10000 1000 5 [.int .i64 ((5 : Nat) : Int), .int .i64 ((5 : Nat) : Int)] ⟨0, .nil⟩ truthC = true := by decide +kernel
theorem lowerLimits_5_6 : callC Tryz.prog envK10 10000 1000 5 [.int .i64 ((5 : Nat) : Int), .int .i64 ((6 : Nat) : Int)] ⟨0, .nil⟩ truthC = true := by decide +kernel
theorem lowerLimits_5_7 : callC Tryz.prog envK10 10000 1000 5 [.int .i64 ((5 : Nat) : Int), .int .i64 ((7 : Nat) : Int)] ⟨0, .nil⟩ truthC = true := by decide +kernel
theorem lowerLimits_5_8 : callC Tryz.prog envK10 10000 1000 5 [.int .i64 ((5 : Nat) : Int), .int .i64 ((8 : Nat) : Int)] ⟨0, .nil⟩ truthC = true := by decide +kernel
theorem lowerLimits_6_0 : callC Tryz.prog envK10 10000 1000 5 [.int .i64 ((6 : Nat) : Int), .int .i64 ((0 : Nat) : Int)] ⟨0, .nil⟩ truthC = true := by decide +kernel
theorem lowerLimits_6_1 : callC Tryz.prog envK10 10000 1000 5 [.int .i64 ((6 : Nat) : Int), .int .i64 ((1 : Nat) : Int)] ⟨0, .nil⟩ truthC = true := by decide +kernel
theorem lowerLimits_6_2 : callC Tryz.prog envK10 10000 1000 5 [.int .i64 ((6 : Nat) : Int), .int .i64 ((2 : Nat) : Int)] ⟨0, .nil⟩ truthC = true := by decide +kernel
theorem lowerLimits_6_3 : callC Tryz.prog envK10 10000 1000 5 [.int .i64 ((6 : Nat) : Int), .int .i64 ((3 : Nat) : Int)] ⟨0, .nil⟩ truthC = true := by decide +kernel
theorem lowerLimits_6_4 : callC Tryz.prog envK10 10000 1000 5 [.int .i64 ((6 : Nat) : Int), .int .i64 ((4 : Nat) : Int)] ⟨0, .nil⟩ truthC = true := by decide +kernel
theorem lowerLimits_6_5 : callC Tryz.prog envK10 10000 1000 5 [.int .i64 ((6 : Nat) : Int), .int .i64 ((5 : Nat) : Int)] ⟨0, .nil⟩ truthC = true := by decide +kernel
theorem lowerLimits_6_6 : callC Tryz.prog envK10 10000 1000 5 [.int .i64 ((6 : Nat) : Int), .int .i64 ((6 : Nat) : Int)] ⟨0, .nil⟩ truthC = true := by decide +kernel
theorem lowerLimits_6_7 : callC Tryz.prog envK10 10000 1000 5 [.int .i64 ((6 : Nat) : Int), .int .i64 ((7 : Nat) : Int)] ⟨0, .nil⟩ truthC = true := by decide +kernel
theorem lowerLimits_6_8 : callC Tryz.prog envK10 10000 1000 5 [.int .i64 ((6 : Nat) : Int), .int .i64 ((8 : Nat) : Int)] ⟨0, .nil⟩ truthC = true := by decide +kernel
theorem lowerLimits_7_0 : callC Tryz.prog envK10 10000 1000 5 [.int .i64 ((7 : Nat) : Int), .int .i64 ((0 : Nat) : Int)] ⟨0, .nil⟩ truthC = true := by decide +kernel
theorem lowerLimits_7_1 : callC Tryz.prog envK10 10000 1000 5 [.int .i64 ((7 : Nat) : Int), .int .i64 ((1 : Nat) : Int)] ⟨0, .nil⟩ truthC = true := by decide +kernel
theorem lowerLimits_7_2 : callC Tryz.prog envK10 10000 1000 5 [.int .i64 ((7 : Nat) : Int), .int .i64 ((2 : Nat) : Int)] ⟨0, .nil⟩ truthC = true := by decide +kernel
theorem lowerLimits_7_3 : callC Tryz.prog envK10 10000 1000 5 [.int .i64 ((7 : Nat) : Int), .int .i64 ((3 : Nat) : Int)] ⟨0, .nil⟩ truthC = true := by decide +kernel
theorem lowerLimits_7_4 : callC Tryz.prog envK10 10000 1000 5 [.int .i64 ((7 : Nat) : Int), .int .i64 ((4 : Nat) : Int)] ⟨0, .nil⟩ truthC = true := by decide +kernel
theorem lowerLimits_7_5 : callC Tryz.prog envK10 10000 1000 5 [.int .i64 ((7 : Nat) : Int), .int .i64 ((5 : Nat) : Int)] ⟨0, .nil⟩ truthC = true := by decide +kernel
theorem lowerLimits_7_6 : callC Tryz.prog envK10 10000 1000 5 [.int .i64 ((7 : Nat) : Int), .int .i64 ((6 : Nat) : Int)] ⟨0, .nil⟩ truthC = true := by decide +kernel
theorem lowerLimits_7_7 : callC Tryz.prog envK10 10000 1000 5 [.int .i64 ((7 : Nat) : Int), .int .i64 ((7 : Nat) : Int)] ⟨0, .nil⟩ truthC = true := by decide +kernel
theorem lowerLimits_7_8 : callC Tryz.prog envK10 10000 1000 5 [.int .i64 ((7 : Nat) : Int), .int .i64 ((8 : Nat) : Int)] ⟨0, .nil⟩ truthC = true := by decide +kernel
theorem lowerLimits_8_0 : callC Tryz.prog envK10 10000 1000 5 [.int .i64 ((8 : Nat) : Int), .int .i64 ((0 : Nat) : Int)] ⟨0, .nil⟩ truthC = true := by decide +kernel
theorem lowerLimits_8_1 : callC Tryz.prog envK10 10000 1000 5 [.int .i64 ((8 : Nat) : Int), .int .i64 ((1 : Nat) : Int)] ⟨0, .nil⟩ truthC = true := by decide +kernel
theorem lowerLimits_8_2 : callC Tryz.prog envK10 10000 1000 5 [.int .i64 ((8 : Nat) : Int), .int .i64 ((2 : Nat) : Int)] ⟨0, .nil⟩ truthC = true := by decide +kernel
theorem lowerLimits_8_3 : callC Tryz.prog envK10 10000 1000 5 [.int .i64 ((8 : Nat) : Int), .int .i64 ((3 : Nat) : Int)] ⟨0, .nil⟩ truthC = true := by decide +kernel
theorem lowerLimits_8_4 : callC Tryz.prog envK10 10000 1000 5 [.int .i64 ((8 : Nat) : Int), .int .i64 ((4 : Nat) : Int)] ⟨0, .nil⟩ truthC = true := by decide +kernel
theorem lowerLimits_8_5 : callC Tryz.prog envK10 10000 1000 5 [.int .i64 ((8 : Nat) : Int), .int .i64 ((5 : Nat) : Int)] ⟨0, .nil⟩ truthC = true := by decide +kernel
theorem lowerLimits_8_6 : callC Tryz.prog envK10 10000 1000 5 [.int .i64 ((8 : Nat) : Int), .int .i64 ((6 : Nat) : Int)] ⟨0, .nil⟩ truthC = true := by decide +kernel
theorem lowerLimits_8_7 : callC Tryz.prog envK10 10000 1000 5 [.int .i64 ((8 : Nat) : Int), .int .i64 ((7 : Nat) : Int)] ⟨0, .nil⟩ truthC = true := by decide +kernel
theorem lowerLimits_8_8 : callC Tryz.prog envK10 10000 1000 5 [.int .i64 ((8 : Nat) : Int), .int .i64 ((8 : Nat) : Int)] ⟨0, .nil⟩ truthC = true := by decide +kernel
theorem lowerLimits_9_0 : callC Tryz.prog envK10 10000 1000 5 [.int .i64 ((9 : Nat) : Int), .int .i64 ((0 : Nat) : Int)] ⟨0, .nil⟩ truthC = true := by decide +kernel
theorem lowerLimits_9_1 : callC Tryz.prog envK10 10000 1000 5 [.int .i64 ((9 : Nat) : Int), .int .i64 ((1 : Nat) : Int)] ⟨0, .nil⟩ truthC = true := by decide +kernel
theorem lowerLimits_9_2 : callC Tryz.prog envK10 10000 1000 5 [.int .i64 ((9 : Nat) : Int), .int .i64 ((2 : Nat) : Int)] ⟨0, .nil⟩ truthC = true := by decide +kernel
theorem lowerLimits_9_3 : callC Tryz.prog envK10 10000 1000 5 [.int .i64 ((9 : Nat) : Int), .int .i64 ((3 : Nat) : Int)] ⟨0, .nil⟩ truthC = true := by decide +kernel
theorem lowerLimits_9_4 : callC Tryz.prog envK10 10000 1000 5 [.int .i64 ((9 : Nat) : Int), .int .i64 ((4 : Nat) : Int)] ⟨0, .nil⟩ truthC = true := by decide +kernel
theorem lowerLimits_9_5 : callC Tryz.prog envK10 10000 1000 5 [.int .i64 ((9 : Nat) : Int), .int .i64 ((5 : Nat) : Int)] ⟨0, .nil⟩ truthC = true := by decide +kernel
theorem lowerLimits_9_6 : callC Tryz.prog envK10 10000 1000 5 [.int .i64 ((9 : Nat) : Int), .int .i64 ((6 : Nat) : Int)] ⟨0, .nil⟩ truthC = true := by decide +kernel
theorem lowerLimits_9_7 : callC Tryz.prog envK10 10000 1000 5 [.int .i64 ((9 : Nat) : Int), .int .i64 ((7 : Nat) : Int)] ⟨0, .nil⟩ truthC = true := by decide +kernel
theorem lowerLimits_9_8 : callC Tryz.prog envK10 10000 1000 5 [.int .i64 ((9 : Nat) : Int), .int .i64 ((8 : Nat) : Int)] ⟨0, .nil⟩ truthC = true := by decide +kernel

end Go.Proofs.YtaoglicedcgnoaaGreatDoor
