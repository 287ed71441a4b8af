/-
  'LowerLimits', reckoned: first parameter 55 to 59.
-/
import Derived.Test.YtaoglicedcgnoaaGreatDoorKnown10
namespace Go.Proofs.YtaoglicedcgnoaaGreatDoor
open Go
set_option maxRecDepth 1000000

theorem lowerLimits_55_0 : callC Tryz.prog envK10 10000 1000 5 [.int .i64 ((55 : Nat) : Int), .int .i64 ((0 : Nat) : Int)] ⟨0, .nil⟩ truthC = true := by decide +kernel
theorem lowerLimits_55_1 : callC Tryz.prog envK10 10000 1000 5 [.int .i64 ((55 : Nat) : Int), .int .i64 ((1 : Nat) : Int)] ⟨0, .nil⟩ truthC = true := by decide +kernel
theorem lowerLimits_55_2 : callC Tryz.prog envK10 10000 1000 5 [.int .i64 ((55 : Nat) : Int), .int .i64 ((2 : Nat) : Int)] ⟨0, .nil⟩ truthC = true := by decide +kernel
theorem lowerLimits_55_3 : callC Tryz.prog envK10 10000 1000 5 [.int .i64 ((55 : Nat) : Int), .int .i64 ((3 : Nat) : Int)] ⟨0, .nil⟩ truthC = true := by decide +kernel
theorem lowerLimits_55_4 : callC Tryz.prog envK10 10000 1000 5 [.int .i64 ((55 : Nat) : Int), .int .i64 ((4 : Nat) : Int)] ⟨0, .nil⟩ truthC = true := by decide +kernel
theorem lowerLimits_55_5 : callC Tryz.prog envK10 10000 1000 5 [.int .i64 ((55 : Nat) : Int), .int .i64 ((5 : Nat) : Int)] ⟨0, .nil⟩ truthC = true := by decide +kernel
theorem lowerLimits_55_6 : callC Tryz.prog envK10 10000 1000 5 [.int .i64 ((55 : Nat) : Int), .int .i64 ((6 : Nat) : Int)] ⟨0, .nil⟩ truthC = true := by decide +kernel
theorem lowerLimits_55_7 : callC Tryz.prog envK10 10000 1000 5 [.int .i64 ((55 : Nat) : Int), .int .i64 ((7 : Nat) : Int)] ⟨0, .nil⟩ truthC = true := by decide +kernel
theorem lowerLimits_55_8 : callC Tryz.prog envK10 10000 1000 5 [.int .i64 ((55 : Nat) : Int), .int .i64 ((8 : Nat) : Int)] ⟨0, .nil⟩ truthC = true := by decide +kernel
theorem lowerLimits_56_0 : callC Tryz.prog envK10 10000 1000 5 [.int .i64 ((56 : Nat) : Int), .int .i64 ((0 : Nat) : Int)] ⟨0, .nil⟩ truthC = true := by decide +kernel
theorem lowerLimits_56_1 : callC Tryz.prog envK10 10000 1000 5 [.int .i64 ((56 : Nat) : Int), .int .i64 ((1 : Nat) : Int)] ⟨0, .nil⟩ truthC = true := by decide +kernel
theorem lowerLimits_56_2 : callC Tryz.prog envK10 10000 1000 5 [.int .i64 ((56 : Nat) : Int), .int .i64 ((2 : Nat) : Int)] ⟨0, .nil⟩ truthC = true := by decide +kernel
theorem lowerLimits_56_3 : callC Tryz.prog envK10 10000 1000 5 [.int .i64 ((56 : Nat) : Int), .int .i64 ((3 : Nat) : Int)] ⟨0, .nil⟩ truthC = true := by decide +kernel
theorem lowerLimits_56_4 : callC Tryz.prog envK10 10000 1000 5 [.int .i64 ((56 : Nat) : Int), .int .i64 ((4 : Nat) : Int)] ⟨0, .nil⟩ truthC = true := by decide +kernel
theorem lowerLimits_56_5 : callC Tryz.prog envK10 10000 1000 5 [.int .i64 ((56 : Nat) : Int), .int .i64 ((5 : Nat) : Int)] ⟨0, .nil⟩ truthC = true := by decide +kernel
theorem lowerLimits_56_6 : callC Tryz.prog envK10 10000 1000 5 [.int .i64 ((56 : Nat) : Int), .int .i64 ((6 : Nat) : Int)] ⟨0, .nil⟩ truthC = true := by decide +kernel
theorem lowerLimits_56_7 : callC Tryz.prog envK10 10000 1000 5 [.int .i64 ((56 : Nat) : Int), .int .i64 ((7 : Nat) : Int)] ⟨0, .nil⟩ truthC = true := by decide +kernel
theorem lowerLimits_56_8 : callC Tryz.prog envK10 10000 1000 5 [.int .i64 ((56 : Nat) : Int), .int .i64 ((8 : Nat) : Int)] ⟨0, .nil⟩ truthC = true := by decide +kernel
theorem lowerLimits_57_0 : callC Tryz.prog envK10 10000 1000 5 [.int .i64 ((57 : Nat) : Int), .int .i64 ((0 : Nat) : Int)] ⟨0, .nil⟩ truthC = true := by decide +kernel
theorem lowerLimits_57_1 : callC Tryz.prog envK10 10000 1000 5 [.int .i64 ((57 : Nat) : Int), .int .i64 ((1 : Nat) : Int)] ⟨0, .nil⟩ truthC = true := by decide +kernel
theorem lowerLimits_57_2 : callC Tryz.prog envK10 10000 1000 5 [.int .i64 ((57 : Nat) : Int), .int .i64 ((2 : Nat) : Int)] ⟨0, .nil⟩ truthC = true := by decide +kernel
theorem lowerLimits_57_3 : callC Tryz.prog envK10 10000 1000 5 [.int .i64 ((57 : Nat) : Int), .int .i64 ((3 : Nat) : Int)] ⟨0, .nil⟩ truthC = true := by decide +kernel
theorem lowerLimits_57_4 : callC Tryz.prog envK10 10000 1000 5 [.int .i64 ((57 : Nat) : Int), .int .i64 ((4 : Nat) : Int)] ⟨0, .nil⟩ truthC = true := by decide +kernel
theorem lowerLimits_57_5 : callC Tryz.prog envK10 10000 1000 5 [.int .i64 ((57 : Nat) : Int), .int .i64 ((5 : Nat) : Int)] ⟨0, .nil⟩ truthC = true := by decide +kernel
theorem lowerLimits_57_6 : callC Tryz.prog envK10 10000 1000 5 [.int .i64 ((57 : Nat) : Int), .int .i64 ((6 : Nat) : Int)] ⟨0, .nil⟩ truthC = true := by decide +kernel
theorem lowerLimits_57_7 : callC Tryz.prog envK10 10000 1000 5 [.int .i64 ((57 : Nat) : Int), .int .i64 ((7 : Nat) : Int)] ⟨0, .nil⟩ truthC = true := by decide +kernel
theorem lowerLimits_57_8 : callC Tryz.prog envK10 10000 1000 5 [.int .i64 ((57 : Nat) : Int), .int .i64 ((8 : Nat) : Int)] ⟨0, .nil⟩ truthC = true := by decide +kernel
theorem lowerLimits_58_0 : callC Tryz.prog envK10 10000 1000 5 [.int .i64 ((58 : Nat) : Int), .int .i64 ((0 : Nat) : Int)] ⟨0, .nil⟩ truthC = true := by decide +kernel
theorem lowerLimits_58_1 : callC Tryz.prog envK10 10000 1000 5 [.int .i64 ((58 : Nat) : Int), .int .i64 ((1 : Nat) : Int)] ⟨0, .nil⟩ truthC = true := by decide +kernel
theorem lowerLimits_58_2 : callC Tryz.prog envK10 10000 1000 5 [.int .i64 ((58 : Nat) : Int), .int .i64 ((2 : Nat) : Int)] ⟨0, .nil⟩ truthC = true := by decide +kernel
theorem lowerLimits_58_3 : callC Tryz.prog envK10 10000 1000 5 [.int .i64 ((58 : Nat) : Int), .int .i64 ((3 : Nat) : Int)] ⟨0, .nil⟩ truthC = true := by decide +kernel
theorem lowerLimits_58_4 : callC Tryz.prog envK10 10000 1000 5 [.int .i64 ((58 : Nat) : Int), .int .i64 ((4 : Nat) : Int)] ⟨0, .nil⟩ truthC = true := by decide +kernel
theorem lowerLimits_58_5 : callC Tryz.prog envK10 10000 1000 5 [.int .i64 ((58 : Nat) : Int), .int .i64 ((5 : Nat) : Int)] ⟨0, .nil⟩ truthC = true := by decide +kernel
theorem lowerLimits_58_6 : callC Tryz.prog envK10 10000 1000 5 [.int .i64 ((58 : Nat) : Int), .int .i64 ((6 : Nat) : Int)] ⟨0, .nil⟩ truthC = true := by decide +kernel
theorem lowerLimits_58_7 : callC Tryz.prog envK10 10000 1000 5 [.int .i64 ((58 : Nat) : Int), .int .i64 ((7 : Nat) : Int)] ⟨0, .nil⟩ truthC = true := by decide +kernel
theorem lowerLimits_58_8 : callC Tryz.prog envK10 10000 1000 5 [.int .i64 ((58 : Nat) : Int), .int .i64 ((8 : Nat) : Int)] ⟨0, .nil⟩ truthC = true := by decide +kernel
theorem lowerLimits_59_0 : callC Tryz.prog envK10 10000 1000 5 [.int .i64 ((59 : Nat) : Int), .int .i64 ((0 : Nat) : Int)] ⟨0, .nil⟩ truthC = true := by decide +kernel
theorem lowerLimits_59_1 : callC Tryz.prog envK10 10000 1000 5 [.int .i64 ((59 : Nat) : Int), .int .i64 ((1 : Nat) : Int)] ⟨0, .nil⟩ truthC = true := by decide +kernel
theorem lowerLimits_59_2 : callC Tryz.prog envK10 10000 1000 5 [.int .i64 ((59 : Nat) : Int), .int .i64 ((2 : Nat) : Int)] ⟨0, .nil⟩ truthC = true := by decide +kernel
theorem lowerLimits_59_3 : callC Tryz.prog envK10 10000 1000 5 [.int .i64 ((59 : Nat) : Int), .int .i64 ((3 : Nat) : Int)] ⟨0, .nil⟩ truthC = true := by decide +kernel
theorem lowerLimits_59_4 : callC Tryz.prog envK10 10000 1000 5 [.int .i64 ((59 : Nat) : Int), .int .i64 ((4 : Nat) : Int)] ⟨0, .nil⟩ truthC = true := by decide +kernel
theorem lowerLimits_59_5 : callC Tryz.prog envK10 10000 1000 5 [.int .i64 ((59 : Nat) : Int), .int .i64 ((5 : Nat) : Int)] ⟨0, .nil⟩ truthC = true := by decide +kernel
theorem lowerLimits_59_6 : callC Tryz.prog envK10 10000 1000 5 [.int .i64 ((59 : Nat) : Int), .int .i64 ((6 : Nat) : Int)] ⟨0, .nil⟩ truthC = true := by decide +kernel
theorem lowerLimits_59_7 : callC Tryz.prog envK10 10000 1000 5 [.int .i64 ((59 : Nat) : Int), .int .i64 ((7 : Nat) : Int)] ⟨0, .nil⟩ truthC = true := by decide +kernel
theorem lowerLimits_59_8 : callC Tryz.prog envK10 10000 1000 5 [.int .i64 ((59 : Nat) : Int), .int .i64 ((8 : Nat) : Int)] ⟨0, .nil⟩ truthC = true := by decide +kernel

end Go.Proofs.YtaoglicedcgnoaaGreatDoor
