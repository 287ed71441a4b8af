/-
  'LowerLimits', reckoned: first parameter 40 to 44.
-/
import Derived.Test.YtaoglicedcgnoaaGreatDoorKnown10
namespace Go.Proofs.YtaoglicedcgnoaaGreatDoor
open Go
set_option maxRecDepth 1000000

theorem lowerLimits_40_0 : callC Tryz.prog envK10 10000 1000 5 [.int .i64 ((40 : Nat) : Int), .int .i64 ((0 : Nat) : Int)] ⟨0, .nil⟩ truthC = true := by decide +kernel
theorem lowerLimits_40_1 : callC Tryz.prog envK10 10000 1000 5 [.int .i64 ((40 : Nat) : Int), .int .i64 ((1 : Nat) : Int)] ⟨0, .nil⟩ truthC = true := by decide +kernel
theorem lowerLimits_40_2 : callC Tryz.prog envK10 10000 1000 5 [.int .i64 ((40 : Nat) : Int), .int .i64 ((2 : Nat) : Int)] ⟨0, .nil⟩ truthC = true := by decide +kernel
theorem lowerLimits_40_3 : callC Tryz.prog envK10 10000 1000 5 [.int .i64 ((40 : Nat) : Int), .int .i64 ((3 : Nat) : Int)] ⟨0, .nil⟩ truthC = true := by decide +kernel
theorem lowerLimits_40_4 : callC Tryz.prog envK10 10000 1000 5 [.int .i64 ((40 : Nat) : Int), .int .i64 ((4 : Nat) : Int)] ⟨0, .nil⟩ truthC = true := by decide +kernel
theorem lowerLimits_40_5 : callC Tryz.prog envK10 10000 1000 5 [.int .i64 ((40 : Nat) : Int), .int .i64 ((5 : Nat) : Int)] ⟨0, .nil⟩ truthC = true := by decide +kernel
theorem lowerLimits_40_6 : callC Tryz.prog envK10 10000 1000 5 [.int .i64 ((40 : Nat) : Int), .int .i64 ((6 : Nat) : Int)] ⟨0, .nil⟩ truthC = true := by decide +kernel
theorem lowerLimits_40_7 : callC Tryz.prog envK10 10000 1000 5 [.int .i64 ((40 : Nat) : Int), .int .i64 ((7 : Nat) : Int)] ⟨0, .nil⟩ truthC = true := by decide +kernel
theorem lowerLimits_40_8 : callC Tryz.prog envK10 10000 1000 5 [.int .i64 ((40 : Nat) : Int), .int .i64 ((8 : Nat) : Int)] ⟨0, .nil⟩ truthC = true := by decide +kernel
theorem lowerLimits_41_0 : callC Tryz.prog envK10 10000 1000 5 [.int .i64 ((41 : Nat) : Int), .int .i64 ((0 : Nat) : Int)] ⟨0, .nil⟩ truthC = true := by decide +kernel
theorem lowerLimits_41_1 : callC Tryz.prog envK10 10000 1000 5 [.int .i64 ((41 : Nat) : Int), .int .i64 ((1 : Nat) : Int)] ⟨0, .nil⟩ truthC = true := by decide +kernel
theorem lowerLimits_41_2 : callC Tryz.prog envK10 10000 1000 5 [.int .i64 ((41 : Nat) : Int), .int .i64 ((2 : Nat) : Int)] ⟨0, .nil⟩ truthC = true := by decide +kernel
theorem lowerLimits_41_3 : callC Tryz.prog envK10 10000 1000 5 [.int .i64 ((41 : Nat) : Int), .int .i64 ((3 : Nat) : Int)] ⟨0, .nil⟩ truthC = true := by decide +kernel
theorem lowerLimits_41_4 : callC Tryz.prog envK10 10000 1000 5 [.int .i64 ((41 : Nat) : Int), .int .i64 ((4 : Nat) : Int)] ⟨0, .nil⟩ truthC = true := by decide +kernel
theorem lowerLimits_41_5 : callC Tryz.prog envK10 10000 1000 5 [.int .i64 ((41 : Nat) : Int), .int .i64 ((5 : Nat) : Int)] ⟨0, .nil⟩ truthC = true := by decide +kernel
theorem lowerLimits_41_6 : callC Tryz.prog envK10 10000 1000 5 [.int .i64 ((41 : Nat) : Int), .int .i64 ((6 : Nat) : Int)] ⟨0, .nil⟩ truthC = true := by decide +kernel
theorem lowerLimits_41_7 : callC Tryz.prog envK10 10000 1000 5 [.int .i64 ((41 : Nat) : Int), .int .i64 ((7 : Nat) : Int)] ⟨0, .nil⟩ truthC = true := by decide +kernel
theorem lowerLimits_41_8 : callC Tryz.prog envK10 10000 1000 5 [.int .i64 ((41 : Nat) : Int), .int .i64 ((8 : Nat) : Int)] ⟨0, .nil⟩ truthC = true := by decide +kernel
theorem lowerLimits_42_0 : callC Tryz.prog envK10 10000 1000 5 [.int .i64 ((42 : Nat) : Int), .int .i64 ((0 : Nat) : Int)] ⟨0, .nil⟩ truthC = true := by decide +kernel
theorem lowerLimits_42_1 : callC Tryz.prog envK10 10000 1000 5 [.int .i64 ((42 : Nat) : Int), .int .i64 ((1 : Nat) : Int)] ⟨0, .nil⟩ truthC = true := by decide +kernel
theorem lowerLimits_42_2 : callC Tryz.prog envK10 10000 1000 5 [.int .i64 ((42 : Nat) : Int), .int .i64 ((2 : Nat) : Int)] ⟨0, .nil⟩ truthC = true := by decide +kernel
theorem lowerLimits_42_3 : callC Tryz.prog envK10 10000 1000 5 [.int .i64 ((42 : Nat) : Int), .int .i64 ((3 : Nat) : Int)] ⟨0, .nil⟩ truthC = true := by decide +kernel
theorem lowerLimits_42_4 : callC Tryz.prog envK10 10000 1000 5 [.int .i64 ((42 : Nat) : Int), .int .i64 ((4 : Nat) : Int)] ⟨0, .nil⟩ truthC = true := by decide +kernel
theorem lowerLimits_42_5 : callC Tryz.prog envK10 10000 1000 5 [.int .i64 ((42 : Nat) : Int), .int .i64 ((5 : Nat) : Int)] ⟨0, .nil⟩ truthC = true := by decide +kernel
theorem lowerLimits_42_6 : callC Tryz.prog envK10 10000 1000 5 [.int .i64 ((42 : Nat) : Int), .int .i64 ((6 : Nat) : Int)] ⟨0, .nil⟩ truthC = true := by decide +kernel
theorem lowerLimits_42_7 : callC Tryz.prog envK10 10000 1000 5 [.int .i64 ((42 : Nat) : Int), .int .i64 ((7 : Nat) : Int)] ⟨0, .nil⟩ truthC = true := by decide +kernel
theorem lowerLimits_42_8 : callC Tryz.prog envK10 10000 1000 5 [.int .i64 ((42 : Nat) : Int), .int .i64 ((8 : Nat) : Int)] ⟨0, .nil⟩ truthC = true := by decide +kernel
theorem lowerLimits_43_0 : callC Tryz.prog envK10 10000 1000 5 [.int .i64 ((43 : Nat) : Int), .int .i64 ((0 : Nat) : Int)] ⟨0, .nil⟩ truthC = true := by decide +kernel
theorem lowerLimits_43_1 : callC Tryz.prog envK10 10000 1000 5 [.int .i64 ((43 : Nat) : Int), .int .i64 ((1 : Nat) : Int)] ⟨0, .nil⟩ truthC = true := by decide +kernel
theorem lowerLimits_43_2 : callC Tryz.prog envK10 10000 1000 5 [.int .i64 ((43 : Nat) : Int), .int .i64 ((2 : Nat) : Int)] ⟨0, .nil⟩ truthC = true := by decide +kernel
theorem lowerLimits_43_3 : callC Tryz.prog envK10 10000 1000 5 [.int .i64 ((43 : Nat) : Int), .int .i64 ((3 : Nat) : Int)] ⟨0, .nil⟩ truthC = true := by decide +kernel
theorem lowerLimits_43_4 : callC Tryz.prog envK10 10000 1000 5 [.int .i64 ((43 : Nat) : Int), .int .i64 ((4 : Nat) : Int)] ⟨0, .nil⟩ truthC = true := by decide +kernel
theorem lowerLimits_43_5 : callC Tryz.prog envK10 10000 1000 5 [.int .i64 ((43 : Nat) : Int), .int .i64 ((5 : Nat) : Int)] ⟨0, .nil⟩ truthC = true := by decide +kernel
theorem lowerLimits_43_6 : callC Tryz.prog envK10 10000 1000 5 [.int .i64 ((43 : Nat) : Int), .int .i64 ((6 : Nat) : Int)] ⟨0, .nil⟩ truthC = true := by decide +kernel
theorem lowerLimits_43_7 : callC Tryz.prog envK10 10000 1000 5 [.int .i64 ((43 : Nat) : Int), .int .i64 ((7 : Nat) : Int)] ⟨0, .nil⟩ truthC = true := by decide +kernel
theorem lowerLimits_43_8 : callC Tryz.prog envK10 10000 1000 5 [.int .i64 ((43 : Nat) : Int), .int .i64 ((8 : Nat) : Int)] ⟨0, .nil⟩ truthC = true := by decide +kernel
theorem lowerLimits_44_0 : callC Tryz.prog envK10 10000 1000 5 [.int .i64 ((44 : Nat) : Int), .int .i64 ((0 : Nat) : Int)] ⟨0, .nil⟩ truthC = true := by decide +kernel
theorem lowerLimits_44_1 : callC Tryz.prog envK10 10000 1000 5 [.int .i64 ((44 : Nat) : Int), .int .i64 ((1 : Nat) : Int)] ⟨0, .nil⟩ truthC = true := by decide +kernel
theorem lowerLimits_44_2 : callC Tryz.prog envK10 10000 1000 5 [.int .i64 ((44 : Nat) : Int), .int .i64 ((2 : Nat) : Int)] ⟨0, .nil⟩ truthC = true := by decide +kernel
theorem lowerLimits_44_3 : callC Tryz.prog envK10 10000 1000 5 [.int .i64 ((44 : Nat) : Int), .int .i64 ((3 : Nat) : Int)] ⟨0, .nil⟩ truthC = true := by decide +kernel
theorem lowerLimits_44_4 : callC Tryz.prog envK10 10000 1000 5 [.int .i64 ((44 : Nat) : Int), .int .i64 ((4 : Nat) : Int)] ⟨0, .nil⟩ truthC = true := by decide +kernel
theorem lowerLimits_44_5 : callC Tryz.prog envK10 10000 1000 5 [.int .i64 ((44 : Nat) : Int), .int .i64 ((5 : Nat) : Int)] ⟨0, .nil⟩ truthC = true := by decide +kernel
theorem lowerLimits_44_6 : callC Tryz.prog envK10 10000 1000 5 [.int .i64 ((44 : Nat) : Int), .int .i64 ((6 : Nat) : Int)] ⟨0, .nil⟩ truthC = true := by decide +kernel
theorem lowerLimits_44_7 : callC Tryz.prog envK10 10000 1000 5 [.int .i64 ((44 : Nat) : Int), .int .i64 ((7 : Nat) : Int)] ⟨0, .nil⟩ truthC = true := by decide +kernel
theorem lowerLimits_44_8 : callC Tryz.prog envK10 10000 1000 5 [.int .i64 ((44 : Nat) : Int), .int .i64 ((8 : Nat) : Int)] ⟨0, .nil⟩ truthC = true := by decide +kernel

end Go.Proofs.YtaoglicedcgnoaaGreatDoor
