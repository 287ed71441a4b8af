/-
  'LowerLimits', reckoned: first parameter 35 to 39.
-/
import Derived.Test.YtaoglicedcgnoaaGreatDoorKnown10
namespace Go.Proofs.YtaoglicedcgnoaaGreatDoor
open Go
set_option maxRecDepth 1000000

theorem lowerLimits_35_0 : callC Tryz.prog envK10 10000 1000 5 [.int .i64 ((35 : Nat) : Int), .int .i64 ((0 : Nat) : Int)] ⟨0, .nil⟩ truthC = true := by decide +kernel
theorem lowerLimits_35_1 : callC Tryz.prog envK10 10000 1000 5 [.int .i64 ((35 : Nat) : Int), .int .i64 ((1 : Nat) : Int)] ⟨0, .nil⟩ truthC = true := by decide +kernel
theorem lowerLimits_35_2 : callC Tryz.prog envK10 10000 1000 5 [.int .i64 ((35 : Nat) : Int), .int .i64 ((2 : Nat) : Int)] ⟨0, .nil⟩ truthC = true := by decide +kernel
theorem lowerLimits_35_3 : callC Tryz.prog envK10 10000 1000 5 [.int .i64 ((35 : Nat) : Int), .int .i64 ((3 : Nat) : Int)] ⟨0, .nil⟩ truthC = true := by decide +kernel
theorem lowerLimits_35_4 : callC Tryz.prog envK10 10000 1000 5 [.int .i64 ((35 : Nat) : Int), .int .i64 ((4 : Nat) : Int)] ⟨0, .nil⟩ truthC = true := by decide +kernel
theorem lowerLimits_35_5 : callC Tryz.prog envK10 10000 1000 5 [.int .i64 ((35 : Nat) : Int), .int .i64 ((5 : Nat) : Int)] ⟨0, .nil⟩ truthC = true := by decide +kernel
theorem lowerLimits_35_6 : callC Tryz.prog envK10 10000 1000 5 [.int .i64 ((35 : Nat) : Int), .int .i64 ((6 : Nat) : Int)] ⟨0, .nil⟩ truthC = true := by decide +kernel
theorem lowerLimits_35_7 : callC Tryz.prog envK10 10000 1000 5 [.int .i64 ((35 : Nat) : Int), .int .i64 ((7 : Nat) : Int)] ⟨0, .nil⟩ truthC = true := by decide +kernel
theorem lowerLimits_35_8 : callC Tryz.prog envK10 10000 1000 5 [.int .i64 ((35 : Nat) : Int), .int .i64 ((8 : Nat) : Int)] ⟨0, .nil⟩ truthC = true := by decide +kernel
theorem lowerLimits_36_0 : callC Tryz.prog envK10 10000 1000 5 [.int .i64 ((36 : Nat) : Int), .int .i64 ((0 : Nat) : Int)] ⟨0, .nil⟩ truthC = true := by decide +kernel
theorem lowerLimits_36_1 : callC Tryz.prog envK10 10000 1000 5 [.int .i64 ((36 : Nat) : Int), .int .i64 ((1 : Nat) : Int)] ⟨0, .nil⟩ truthC = true := by decide +kernel
theorem lowerLimits_36_2 : callC Tryz.prog envK10 10000 1000 5 [.int .i64 ((36 : Nat) : Int), .int .i64 ((2 : Nat) : Int)] ⟨0, .nil⟩ truthC = true := by decide +kernel
theorem lowerLimits_36_3 : callC Tryz.prog envK10 10000 1000 5 [.int .i64 ((36 : Nat) : Int), .int .i64 ((3 : Nat) : Int)] ⟨0, .nil⟩ truthC = true := by decide +kernel
theorem lowerLimits_36_4 : callC Tryz.prog envK10 10000 1000 5 [.int .i64 ((36 : Nat) : Int), .int .i64 ((4 : Nat) : Int)] ⟨0, .nil⟩ truthC = true := by decide +kernel
theorem lowerLimits_36_5 : callC Tryz.prog envK10 10000 1000 5 [.int .i64 ((36 : Nat) : Int), .int .i64 ((5 : Nat) : Int)] ⟨0, .nil⟩ truthC = true := by decide +kernel
theorem lowerLimits_36_6 : callC Tryz.prog envK10 10000 1000 5 [.int .i64 ((36 : Nat) : Int), .int .i64 ((6 : Nat) : Int)] ⟨0, .nil⟩ truthC = true := by decide +kernel
theorem lowerLimits_36_7 : callC Tryz.prog envK10 10000 1000 5 [.int .i64 ((36 : Nat) : Int), .int .i64 ((7 : Nat) : Int)] ⟨0, .nil⟩ truthC = true := by decide +kernel
theorem lowerLimits_36_8 : callC Tryz.prog envK10 10000 1000 5 [.int .i64 ((36 : Nat) : Int), .int .i64 ((8 : Nat) : Int)] ⟨0, .nil⟩ truthC = true := by decide +kernel
theorem lowerLimits_37_0 : callC Tryz.prog envK10 10000 1000 5 [.int .i64 ((37 : Nat) : Int), .int .i64 ((0 : Nat) : Int)] ⟨0, .nil⟩ truthC = true := by decide +kernel
theorem lowerLimits_37_1 : callC Tryz.prog envK10 10000 1000 5 [.int .i64 ((37 : Nat) : Int), .int .i64 ((1 : Nat) : Int)] ⟨0, .nil⟩ truthC = true := by decide +kernel
theorem lowerLimits_37_2 : callC Tryz.prog envK10 10000 1000 5 [.int .i64 ((37 : Nat) : Int), .int .i64 ((2 : Nat) : Int)] ⟨0, .nil⟩ truthC = true := by decide +kernel
theorem lowerLimits_37_3 : callC Tryz.prog envK10 10000 1000 5 [.int .i64 ((37 : Nat) : Int), .int .i64 ((3 : Nat) : Int)] ⟨0, .nil⟩ truthC = true := by decide +kernel
theorem lowerLimits_37_4 : callC Tryz.prog envK10 10000 1000 5 [.int .i64 ((37 : Nat) : Int), .int .i64 ((4 : Nat) : Int)] ⟨0, .nil⟩ truthC = true := by decide +kernel
theorem lowerLimits_37_5 : callC Tryz.prog envK10 10000 1000 5 [.int .i64 ((37 : Nat) : Int), .int .i64 ((5 : Nat) : Int)] ⟨0, .nil⟩ truthC = true := by decide +kernel
theorem lowerLimits_37_6 : callC Tryz.prog envK10 10000 1000 5 [.int .i64 ((37 : Nat) : Int), .int .i64 ((6 : Nat) : Int)] ⟨0, .nil⟩ truthC = true := by decide +kernel
theorem lowerLimits_37_7 : callC Tryz.prog envK10 10000 1000 5 [.int .i64 ((37 : Nat) : Int), .int .i64 ((7 : Nat) : Int)] ⟨0, .nil⟩ truthC = true := by decide +kernel
theorem lowerLimits_37_8 : callC Tryz.prog envK10 10000 1000 5 [.int .i64 ((37 : Nat) : Int), .int .i64 ((8 : Nat) : Int)] ⟨0, .nil⟩ truthC = true := by decide +kernel
theorem lowerLimits_38_0 : callC Tryz.prog envK10 10000 1000 5 [.int .i64 ((38 : Nat) : Int), .int .i64 ((0 : Nat) : Int)] ⟨0, .nil⟩ truthC = true := by decide +kernel
theorem lowerLimits_38_1 : callC Tryz.prog envK10 10000 1000 5 [.int .i64 ((38 : Nat) : Int), .int .i64 ((1 : Nat) : Int)] ⟨0, .nil⟩ truthC = true := by decide +kernel
theorem lowerLimits_38_2 : callC Tryz.prog envK10 10000 1000 5 [.int .i64 ((38 : Nat) : Int), .int .i64 ((2 : Nat) : Int)] ⟨0, .nil⟩ truthC = true := by decide +kernel
theorem lowerLimits_38_3 : callC Tryz.prog envK10 10000 1000 5 [.int .i64 ((38 : Nat) : Int), .int .i64 ((3 : Nat) : Int)] ⟨0, .nil⟩ truthC = true := by decide +kernel
theorem lowerLimits_38_4 : callC Tryz.prog envK10 10000 1000 5 [.int .i64 ((38 : Nat) : Int), .int .i64 ((4 : Nat) : Int)] ⟨0, .nil⟩ truthC = true := by decide +kernel
theorem lowerLimits_38_5 : callC Tryz.prog envK10 10000 1000 5 [.int .i64 ((38 : Nat) : Int), .int .i64 ((5 : Nat) : Int)] ⟨0, .nil⟩ truthC = true := by decide +kernel
theorem lowerLimits_38_6 : callC Tryz.prog envK10 10000 1000 5 [.int .i64 ((38 : Nat) : Int), .int .i64 ((6 : Nat) : Int)] ⟨0, .nil⟩ truthC = true := by decide +kernel
theorem lowerLimits_38_7 : callC Tryz.prog envK10 10000 1000 5 [.int .i64 ((38 : Nat) : Int), .int .i64 ((7 : Nat) : Int)] ⟨0, .nil⟩ truthC = true := by decide +kernel
theorem lowerLimits_38_8 : callC Tryz.prog envK10 10000 1000 5 [.int .i64 ((38 : Nat) : Int), .int .i64 ((8 : Nat) : Int)] ⟨0, .nil⟩ truthC = true := by decide +kernel
theorem lowerLimits_39_0 : callC Tryz.prog envK10 10000 1000 5 [.int .i64 ((39 : Nat) : Int), .int .i64 ((0 : Nat) : Int)] ⟨0, .nil⟩ truthC = true := by decide +kernel
theorem lowerLimits_39_1 : callC Tryz.prog envK10 10000 1000 5 [.int .i64 ((39 : Nat) : Int), .int .i64 ((1 : Nat) : Int)] ⟨0, .nil⟩ truthC = true := by decide +kernel
theorem lowerLimits_39_2 : callC Tryz.prog envK10 10000 1000 5 [.int .i64 ((39 : Nat) : Int), .int .i64 ((2 : Nat) : Int)] ⟨0, .nil⟩ truthC = true := by decide +kernel
theorem lowerLimits_39_3 : callC Tryz.prog envK10 10000 1000 5 [.int .i64 ((39 : Nat) : Int), .int .i64 ((3 : Nat) : Int)] ⟨0, .nil⟩ truthC = true := by decide +kernel
theorem lowerLimits_39_4 : callC Tryz.prog envK10 10000 1000 5 [.int .i64 ((39 : Nat) : Int), .int .i64 ((4 : Nat) : Int)] ⟨0, .nil⟩ truthC = true := by decide +kernel
theorem lowerLimits_39_5 : callC Tryz.prog envK10 10000 1000 5 [.int .i64 ((39 : Nat) : Int), .int .i64 ((5 : Nat) : Int)] ⟨0, .nil⟩ truthC = true := by decide +kernel
theorem lowerLimits_39_6 : callC Tryz.prog envK10 10000 1000 5 [.int .i64 ((39 : Nat) : Int), .int .i64 ((6 : Nat) : Int)] ⟨0, .nil⟩ truthC = true := by decide +kernel
theorem lowerLimits_39_7 : callC Tryz.prog envK10 10000 1000 5 [.int .i64 ((39 : Nat) : Int), .int .i64 ((7 : Nat) : Int)] ⟨0, .nil⟩ truthC = true := by decide +kernel
theorem lowerLimits_39_8 : callC Tryz.prog envK10 10000 1000 5 [.int .i64 ((39 : Nat) : Int), .int .i64 ((8 : Nat) : Int)] ⟨0, .nil⟩ truthC = true := by decide +kernel

end Go.Proofs.YtaoglicedcgnoaaGreatDoor
