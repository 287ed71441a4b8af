/-
  'LowerLimits', reckoned: first parameter 25 to 29.
-/
import Derived.Test.YtaoglicedcgnoaaGreatDoorKnown10
namespace Go.Proofs.YtaoglicedcgnoaaGreatDoor
open Go
set_option maxRecDepth 1000000

theorem lowerLimits_25_0 : callC Tryz.prog envK10 10000 1000 5 [.int .i64 ((25 : Nat) : Int), .int .i64 ((0 : Nat) : Int)] ⟨0, .nil⟩ truthC = true := by decide +kernel
theorem lowerLimits_25_1 : callC Tryz.prog envK10 10000 1000 5 [.int .i64 ((25 : Nat) : Int), .int .i64 ((1 : Nat) : Int)] ⟨0, .nil⟩ truthC = true := by decide +kernel
theorem lowerLimits_25_2 : callC Tryz.prog envK10 10000 1000 5 [.int .i64 ((25 : Nat) : Int), .int .i64 ((2 : Nat) : Int)] ⟨0, .nil⟩ truthC = true := by decide +kernel
theorem lowerLimits_25_3 : callC Tryz.prog envK10 10000 1000 5 [.int .i64 ((25 : Nat) : Int), .int .i64 ((3 : Nat) : Int)] ⟨0, .nil⟩ truthC = true := by decide +kernel
theorem lowerLimits_25_4 : callC Tryz.prog envK10 10000 1000 5 [.int .i64 ((25 : Nat) : Int), .int .i64 ((4 : Nat) : Int)] ⟨0, .nil⟩ truthC = true := by decide +kernel
theorem lowerLimits_25_5 : callC Tryz.prog envK10 10000 1000 5 [.int .i64 ((25 : Nat) : Int), .int .i64 ((5 : Nat) : Int)] ⟨0, .nil⟩ truthC = true := by decide +kernel
theorem lowerLimits_25_6 : callC Tryz.prog envK10 10000 1000 5 [.int .i64 ((25 : Nat) : Int), .int .i64 ((6 : Nat) : Int)] ⟨0, .nil⟩ truthC = true := by decide +kernel
theorem lowerLimits_25_7 : callC Tryz.prog envK10 10000 1000 5 [.int .i64 ((25 : Nat) : Int), .int .i64 ((7 : Nat) : Int)] ⟨0, .nil⟩ truthC = true := by decide +kernel
theorem lowerLimits_25_8 : callC Tryz.prog envK10 10000 1000 5 [.int .i64 ((25 : Nat) : Int), .int .i64 ((8 : Nat) : Int)] ⟨0, .nil⟩ truthC = true := by decide +kernel
theorem lowerLimits_26_0 : callC Tryz.prog envK10 10000 1000 5 [.int .i64 ((26 : Nat) : Int), .int .i64 ((0 : Nat) : Int)] ⟨0, .nil⟩ truthC = true := by decide +kernel
theorem lowerLimits_26_1 : callC Tryz.prog envK10 10000 1000 5 [.int .i64 ((26 : Nat) : Int), .int .i64 ((1 : Nat) : Int)] ⟨0, .nil⟩ truthC = true := by decide +kernel
theorem lowerLimits_26_2 : callC Tryz.prog envK10 10000 1000 5 [.int .i64 ((26 : Nat) : Int), .int .i64 ((2 : Nat) : Int)] ⟨0, .nil⟩ truthC = true := by decide +kernel
theorem lowerLimits_26_3 : callC Tryz.prog envK10 10000 1000 5 [.int .i64 ((26 : Nat) : Int), .int .i64 ((3 : Nat) : Int)] ⟨0, .nil⟩ truthC = true := by decide +kernel
theorem lowerLimits_26_4 : callC Tryz.prog envK10 10000 1000 5 [.int .i64 ((26 : Nat) : Int), .int .i64 ((4 : Nat) : Int)] ⟨0, .nil⟩ truthC = true := by decide +kernel
theorem lowerLimits_26_5 : callC Tryz.prog envK10 10000 1000 5 [.int .i64 ((26 : Nat) : Int), .int .i64 ((5 : Nat) : Int)] ⟨0, .nil⟩ truthC = true := by decide +kernel
theorem lowerLimits_26_6 : callC Tryz.prog envK10 10000 1000 5 [.int .i64 ((26 : Nat) : Int), .int .i64 ((6 : Nat) : Int)] ⟨0, .nil⟩ truthC = true := by decide +kernel
theorem lowerLimits_26_7 : callC Tryz.prog envK10 10000 1000 5 [.int .i64 ((26 : Nat) : Int), .int .i64 ((7 : Nat) : Int)] ⟨0, .nil⟩ truthC = true := by decide +kernel
theorem lowerLimits_26_8 : callC Tryz.prog envK10 10000 1000 5 [.int .i64 ((26 : Nat) : Int), .int .i64 ((8 : Nat) : Int)] ⟨0, .nil⟩ truthC = true := by decide +kernel
theorem lowerLimits_27_0 : callC Tryz.prog envK10 10000 1000 5 [.int .i64 ((27 : Nat) : Int), .int .i64 ((0 : Nat) : Int)] ⟨0, .nil⟩ truthC = true := by decide +kernel
theorem lowerLimits_27_1 : callC Tryz.prog envK10 10000 1000 5 [.int .i64 ((27 : Nat) : Int), .int .i64 ((1 : Nat) : Int)] ⟨0, .nil⟩ truthC = true := by decide +kernel
theorem lowerLimits_27_2 : callC Tryz.prog envK10 10000 1000 5 [.int .i64 ((27 : Nat) : Int), .int .i64 ((2 : Nat) : Int)] ⟨0, .nil⟩ truthC = true := by decide +kernel
theorem lowerLimits_27_3 : callC Tryz.prog envK10 10000 1000 5 [.int .i64 ((27 : Nat) : Int), .int .i64 ((3 : Nat) : Int)] ⟨0, .nil⟩ truthC = true := by decide +kernel
theorem lowerLimits_27_4 : callC Tryz.prog envK10 10000 1000 5 [.int .i64 ((27 : Nat) : Int), .int .i64 ((4 : Nat) : Int)] ⟨0, .nil⟩ truthC = true := by decide +kernel
theorem lowerLimits_27_5 : callC Tryz.prog envK10 10000 1000 5 [.int .i64 ((27 : Nat) : Int), .int .i64 ((5 : Nat) : Int)] ⟨0, .nil⟩ truthC = true := by decide +kernel
theorem lowerLimits_27_6 : callC Tryz.prog envK10 10000 1000 5 [.int .i64 ((27 : Nat) : Int), .int .i64 ((6 : Nat) : Int)] ⟨0, .nil⟩ truthC = true := by decide +kernel
theorem lowerLimits_27_7 : callC Tryz.prog envK10 10000 1000 5 [.int .i64 ((27 : Nat) : Int), .int .i64 ((7 : Nat) : Int)] ⟨0, .nil⟩ truthC = true := by decide +kernel
theorem lowerLimits_27_8 : callC Tryz.prog envK10 10000 1000 5 [.int .i64 ((27 : Nat) : Int), .int .i64 ((8 : Nat) : Int)] ⟨0, .nil⟩ truthC = true := by decide +kernel
theorem lowerLimits_28_0 : callC Tryz.prog envK10 10000 1000 5 [.int .i64 ((28 : Nat) : Int), .int .i64 ((0 : Nat) : Int)] ⟨0, .nil⟩ truthC = true := by decide +kernel
theorem lowerLimits_28_1 : callC Tryz.prog envK10 10000 1000 5 [.int .i64 ((28 : Nat) : Int), .int .i64 ((1 : Nat) : Int)] ⟨0, .nil⟩ truthC = true := by decide +kernel
theorem lowerLimits_28_2 : callC Tryz.prog envK10 10000 1000 5 [.int .i64 ((28 : Nat) : Int), .int .i64 ((2 : Nat) : Int)] ⟨0, .nil⟩ truthC = true := by decide +kernel
theorem lowerLimits_28_3 : callC Tryz.prog envK10 10000 1000 5 [.int .i64 ((28 : Nat) : Int), .int .i64 ((3 : Nat) : Int)] ⟨0, .nil⟩ truthC = true := by decide +kernel
theorem lowerLimits_28_4 : callC Tryz.prog envK10 10000 1000 5 [.int .i64 ((28 : Nat) : Int), .int .i64 ((4 : Nat) : Int)] ⟨0, .nil⟩ truthC = true := by decide +kernel
theorem lowerLimits_28_5 : callC Tryz.prog envK10 10000 1000 5 [.int .i64 ((28 : Nat) : Int), .int .i64 ((5 : Nat) : Int)] ⟨0, .nil⟩ truthC = true := by decide +kernel
theorem lowerLimits_28_6 : callC Tryz.prog envK10 10000 1000 5 [.int .i64 ((28 : Nat) : Int), .int .i64 ((6 : Nat) : Int)] ⟨0, .nil⟩ truthC = true := by decide +kernel
theorem lowerLimits_28_7 : callC Tryz.prog envK10 10000 1000 5 [.int .i64 ((28 : Nat) : Int), .int .i64 ((7 : Nat) : Int)] ⟨0, .nil⟩ truthC = true := by decide +kernel
theorem lowerLimits_28_8 : callC Tryz.prog envK10 10000 1000 5 [.int .i64 ((28 : Nat) : Int), .int .i64 ((8 : Nat) : Int)] ⟨0, .nil⟩ truthC = true := by decide +kernel
theorem lowerLimits_29_0 : callC Tryz.prog envK10 10000 1000 5 [.int .i64 ((29 : Nat) : Int), .int .i64 ((0 : Nat) : Int)] ⟨0, .nil⟩ truthC = true := by decide +kernel
theorem lowerLimits_29_1 : callC Tryz.prog envK10 10000 1000 5 [.int .i64 ((29 : Nat) : Int), .int .i64 ((1 : Nat) : Int)] ⟨0, .nil⟩ truthC = true := by decide +kernel
theorem lowerLimits_29_2 : callC Tryz.prog envK10 10000 1000 5 [.int .i64 ((29 : Nat) : Int), .int .i64 ((2 : Nat) : Int)] ⟨0, .nil⟩ truthC = true := by decide +kernel
theorem lowerLimits_29_3 : callC Tryz.prog envK10 10000 1000 5 [.int .i64 ((29 : Nat) : Int), .int .i64 ((3 : Nat) : Int)] ⟨0, .nil⟩ truthC = true := by decide +kernel
theorem lowerLimits_29_4 : callC Tryz.prog envK10 10000 1000 5 [.int .i64 ((29 : Nat) : Int), .int .i64 ((4 : Nat) : Int)] ⟨0, .nil⟩ truthC = true := by decide +kernel
theorem lowerLimits_29_5 : callC Tryz.prog envK10 10000 1000 5 [.int .i64 ((29 : Nat) : Int), .int .i64 ((5 : Nat) : Int)] ⟨0, .nil⟩ truthC = true := by decide +kernel
theorem lowerLimits_29_6 : callC Tryz.prog envK10 10000 1000 5 [.int .i64 ((29 : Nat) : Int), .int .i64 ((6 : Nat) : Int)] ⟨0, .nil⟩ truthC = true := by decide +kernel
theorem lowerLimits_29_7 : callC Tryz.prog envK10 10000 1000 5 [.int .i64 ((29 : Nat) : Int), .int .i64 ((7 : Nat) : Int)] ⟨0, .nil⟩ truthC = true := by decide +kernel
theorem lowerLimits_29_8 : callC Tryz.prog envK10 10000 1000 5 [.int .i64 ((29 : Nat) : Int), .int .i64 ((8 : Nat) : Int)] ⟨0, .nil⟩ truthC = true := by decide +kernel

end Go.Proofs.YtaoglicedcgnoaaGreatDoor
