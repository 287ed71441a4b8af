/-
  'LowerLimits', reckoned: first parameter 15 to 19.
-/
import Derived.Test.YtaoglicedcgnoaaGreatDoorKnown10
namespace Go.Proofs.YtaoglicedcgnoaaGreatDoor
open Go
set_option maxRecDepth 1000000

theorem lowerLimits_15_0 : callC Tryz.prog envK10 10000 1000 5 [.int .i64 ((15 : Nat) : Int), .int .i64 ((0 : Nat) : Int)] ⟨0, .nil⟩ truthC = true := by decide +kernel
theorem lowerLimits_15_1 : callC Tryz.prog envK10 10000 1000 5 [.int .i64 ((15 : Nat) : Int), .int .i64 ((1 : Nat) : Int)] ⟨0, .nil⟩ truthC = true := by decide +kernel
theorem lowerLimits_15_2 : callC Tryz.prog envK10 10000 1000 5 [.int .i64 ((15 : Nat) : Int), .int .i64 ((2 : Nat) : Int)] ⟨0, .nil⟩ truthC = true := by decide +kernel
theorem lowerLimits_15_3 : callC Tryz.prog envK10 10000 1000 5 [.int .i64 ((15 : Nat) : Int), .int .i64 ((3 : Nat) : Int)] ⟨0, .nil⟩ truthC = true := by decide +kernel
theorem lowerLimits_15_4 : callC Tryz.prog envK10 10000 1000 5 [.int .i64 ((15 : Nat) : Int), .int .i64 ((4 : Nat) : Int)] ⟨0, .nil⟩ truthC = true := by decide +kernel
theorem lowerLimits_15_5 : callC Tryz.prog envK10 10000 1000 5 [.int .i64 ((15 : Nat) : Int), .int .i64 ((5 : Nat) : Int)] ⟨0, .nil⟩ truthC = true := by decide +kernel
theorem lowerLimits_15_6 : callC Tryz.prog envK10 10000 1000 5 [.int .i64 ((15 : Nat) : Int), .int .i64 ((6 : Nat) : Int)] ⟨0, .nil⟩ truthC = true := by decide +kernel
theorem lowerLimits_15_7 : callC Tryz.prog envK10 10000 1000 5 [.int .i64 ((15 : Nat) : Int), .int .i64 ((7 : Nat) : Int)] ⟨0, .nil⟩ truthC = true := by decide +kernel
theorem lowerLimits_15_8 : callC Tryz.prog envK10 10000 1000 5 [.int .i64 ((15 : Nat) : Int), .int .i64 ((8 : Nat) : Int)] ⟨0, .nil⟩ truthC = true := by decide +kernel
theorem lowerLimits_16_0 : callC Tryz.prog envK10 10000 1000 5 [.int .i64 ((16 : Nat) : Int), .int .i64 ((0 : Nat) : Int)] ⟨0, .nil⟩ truthC = true := by decide +kernel
theorem lowerLimits_16_1 : callC Tryz.prog envK10 10000 1000 5 [.int .i64 ((16 : Nat) : Int), .int .i64 ((1 : Nat) : Int)] ⟨0, .nil⟩ truthC = true := by decide +kernel
theorem lowerLimits_16_2 : callC Tryz.prog envK10 10000 1000 5 [.int .i64 ((16 : Nat) : Int), .int .i64 ((2 : Nat) : Int)] ⟨0, .nil⟩ truthC = true := by decide +kernel
theorem lowerLimits_16_3 : callC Tryz.prog envK10 10000 1000 5 [.int .i64 ((16 : Nat) : Int), .int .i64 ((3 : Nat) : Int)] ⟨0, .nil⟩ truthC = true := by decide +kernel
theorem lowerLimits_16_4 : callC Tryz.prog envK10 10000 1000 5 [.int .i64 ((16 : Nat) : Int), .int .i64 ((4 : Nat) : Int)] ⟨0, .nil⟩ truthC = true := by decide +kernel
theorem lowerLimits_16_5 : callC Tryz.prog envK10 10000 1000 5 [.int .i64 ((16 : Nat) : Int), .int .i64 ((5 : Nat) : Int)] ⟨0, .nil⟩ truthC = true := by decide +kernel
theorem lowerLimits_16_6 : callC Tryz.prog envK10 10000 1000 5 [.int .i64 ((16 : Nat) : Int), .int .i64 ((6 : Nat) : Int)] ⟨0, .nil⟩ truthC = true := by decide +kernel
theorem lowerLimits_16_7 : callC Tryz.prog envK10 10000 1000 5 [.int .i64 ((16 : Nat) : Int), .int .i64 ((7 : Nat) : Int)] ⟨0, .nil⟩ truthC = true := by decide +kernel
theorem lowerLimits_16_8 : callC Tryz.prog envK10 10000 1000 5 [.int .i64 ((16 : Nat) : Int), .int .i64 ((8 : Nat) : Int)] ⟨0, .nil⟩ truthC = true := by decide +kernel
theorem lowerLimits_17_0 : callC Tryz.prog envK10 10000 1000 5 [.int .i64 ((17 : Nat) : Int), .int .i64 ((0 : Nat) : Int)] ⟨0, .nil⟩ truthC = true := by decide +kernel
theorem lowerLimits_17_1 : callC Tryz.prog envK10 10000 1000 5 [.int .i64 ((17 : Nat) : Int), .int .i64 ((1 : Nat) : Int)] ⟨0, .nil⟩ truthC = true := by decide +kernel
theorem lowerLimits_17_2 : callC Tryz.prog envK10 10000 1000 5 [.int .i64 ((17 : Nat) : Int), .int .i64 ((2 : Nat) : Int)] ⟨0, .nil⟩ truthC = true := by decide +kernel
theorem lowerLimits_17_3 : callC Tryz.prog envK10 10000 1000 5 [.int .i64 ((17 : Nat) : Int), .int .i64 ((3 : Nat) : Int)] ⟨0, .nil⟩ truthC = true := by decide +kernel
theorem lowerLimits_17_4 : callC Tryz.prog envK10 10000 1000 5 [.int .i64 ((17 : Nat) : Int), .int .i64 ((4 : Nat) : Int)] ⟨0, .nil⟩ truthC = true := by decide +kernel
theorem lowerLimits_17_5 : callC Tryz.prog envK10 10000 1000 5 [.int .i64 ((17 : Nat) : Int), .int .i64 ((5 : Nat) : Int)] ⟨0, .nil⟩ truthC = true := by decide +kernel
theorem lowerLimits_17_6 : callC Tryz.prog envK10 10000 1000 5 [.int .i64 ((17 : Nat) : Int), .int .i64 ((6 : Nat) : Int)] ⟨0, .nil⟩ truthC = true := by decide +kernel
theorem lowerLimits_17_7 : callC Tryz.prog envK10 10000 1000 5 [.int .i64 ((17 : Nat) : Int), .int .i64 ((7 : Nat) : Int)] ⟨0, .nil⟩ truthC = true := by decide +kernel
theorem lowerLimits_17_8 : callC Tryz.prog envK10 10000 1000 5 [.int .i64 ((17 : Nat) : Int), .int .i64 ((8 : Nat) : Int)] ⟨0, .nil⟩ truthC = true := by decide +kernel
theorem lowerLimits_18_0 : callC Tryz.prog envK10 10000 1000 5 [.int .i64 ((18 : Nat) : Int), .int .i64 ((0 : Nat) : Int)] ⟨0, .nil⟩ truthC = true := by decide +kernel
theorem lowerLimits_18_1 : callC Tryz.prog envK10 10000 1000 5 [.int .i64 ((18 : Nat) : Int), .int .i64 ((1 : Nat) : Int)] ⟨0, .nil⟩ truthC = true := by decide +kernel
theorem lowerLimits_18_2 : callC Tryz.prog envK10 10000 1000 5 [.int .i64 ((18 : Nat) : Int), .int .i64 ((2 : Nat) : Int)] ⟨0, .nil⟩ truthC = true := by decide +kernel
theorem lowerLimits_18_3 : callC Tryz.prog envK10 10000 1000 5 [.int .i64 ((18 : Nat) : Int), .int .i64 ((3 : Nat) : Int)] ⟨0, .nil⟩ truthC = true := by decide +kernel
theorem lowerLimits_18_4 : callC Tryz.prog envK10 10000 1000 5 [.int .i64 ((18 : Nat) : Int), .int .i64 ((4 : Nat) : Int)] ⟨0, .nil⟩ truthC = true := by decide +kernel
theorem lowerLimits_18_5 : callC Tryz.prog envK10 10000 1000 5 [.int .i64 ((18 : Nat) : Int), .int .i64 ((5 : Nat) : Int)] ⟨0, .nil⟩ truthC = true := by decide +kernel
theorem lowerLimits_18_6 : callC Tryz.prog envK10 10000 1000 5 [.int .i64 ((18 : Nat) : Int), .int .i64 ((6 : Nat) : Int)] ⟨0, .nil⟩ truthC = true := by decide +kernel
theorem lowerLimits_18_7 : callC Tryz.prog envK10 10000 1000 5 [.int .i64 ((18 : Nat) : Int), .int .i64 ((7 : Nat) : Int)] ⟨0, .nil⟩ truthC = true := by decide +kernel
theorem lowerLimits_18_8 : callC Tryz.prog envK10 10000 1000 5 [.int .i64 ((18 : Nat) : Int), .int .i64 ((8 : Nat) : Int)] ⟨0, .nil⟩ truthC = true := by decide +kernel
theorem lowerLimits_19_0 : callC Tryz.prog envK10 10000 1000 5 [.int .i64 ((19 : Nat) : Int), .int .i64 ((0 : Nat) : Int)] ⟨0, .nil⟩ truthC = true := by decide +kernel
theorem lowerLimits_19_1 : callC Tryz.prog envK10 10000 1000 5 [.int .i64 ((19 : Nat) : Int), .int .i64 ((1 : Nat) : Int)] ⟨0, .nil⟩ truthC = true := by decide +kernel
theorem lowerLimits_19_2 : callC Tryz.prog envK10 10000 1000 5 [.int .i64 ((19 : Nat) : Int), .int .i64 ((2 : Nat) : Int)] ⟨0, .nil⟩ truthC = true := by decide +kernel
theorem lowerLimits_19_3 : callC Tryz.prog envK10 10000 1000 5 [.int .i64 ((19 : Nat) : Int), .int .i64 ((3 : Nat) : Int)] ⟨0, .nil⟩ truthC = true := by decide +kernel
theorem lowerLimits_19_4 : callC Tryz.prog envK10 10000 1000 5 [.int .i64 ((19 : Nat) : Int), .int .i64 ((4 : Nat) : Int)] ⟨0, .nil⟩ truthC = true := by decide +kernel
theorem lowerLimits_19_5 : callC Tryz.prog envK10 10000 1000 5 [.int .i64 ((19 : Nat) : Int), .int .i64 ((5 : Nat) : Int)] ⟨0, .nil⟩ truthC = true := by decide +kernel
theorem lowerLimits_19_6 : callC Tryz.prog envK10 10000 1000 5 [.int .i64 ((19 : Nat) : Int), .int .i64 ((6 : Nat) : Int)] ⟨0, .nil⟩ truthC = true := by decide +kernel
theorem lowerLimits_19_7 : callC Tryz.prog envK10 10000 1000 5 [.int .i64 ((19 : Nat) : Int), .int .i64 ((7 : Nat) : Int)] ⟨0, .nil⟩ truthC = true := by decide +kernel
theorem lowerLimits_19_8 : callC Tryz.prog envK10 10000 1000 5 [.int .i64 ((19 : Nat) : Int), .int .i64 ((8 : Nat) : Int)] ⟨0, .nil⟩ truthC = true := by decide +kernel

end Go.Proofs.YtaoglicedcgnoaaGreatDoor
