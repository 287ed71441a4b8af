/-
  'LowerLimits', reckoned: first parameter 90 to 94.
-/
import Derived.Test.YtaoglicedcgnoaaGreatDoorKnown10
namespace Go.Proofs.YtaoglicedcgnoaaGreatDoor
open Go
set_option maxRecDepth 1000000

theorem lowerLimits_90_0 : callC Tryz.prog envK10 10000 1000 5 [.int .i64 ((90 : Nat) : Int), .int .i64 ((0 : Nat) : Int)] ⟨0, .nil⟩ truthC = true := by decide +kernel
theorem lowerLimits_90_1 : callC Tryz.prog envK10 10000 1000 5 [.int .i64 ((90 : Nat) : Int), .int .i64 ((1 : Nat) : Int)] ⟨0, .nil⟩ truthC = true := by decide +kernel
theorem lowerLimits_90_2 : callC Tryz.prog envK10 10000 1000 5 [.int .i64 ((90 : Nat) : Int), .int .i64 ((2 : Nat) : Int)] ⟨0, .nil⟩ truthC = true := by decide +kernel
theorem lowerLimits_90_3 : callC Tryz.prog envK10 10000 1000 5 [.int .i64 ((90 : Nat) : Int), .int .i64 ((3 : Nat) : Int)] ⟨0, .nil⟩ truthC = true := by decide +kernel
theorem lowerLimits_90_4 : callC Tryz.prog envK10 10000 1000 5 [.int .i64 ((90 : Nat) : Int), .int .i64 ((4 : Nat) : Int)] ⟨0, .nil⟩ truthC = true := by decide +kernel
theorem lowerLimits_90_5 : callC Tryz.prog envK10 10000 1000 5 [.int .i64 ((90 : Nat) : Int), .int .i64 ((5 : Nat) : Int)] ⟨0, .nil⟩ truthC = true := by decide +kernel
theorem lowerLimits_90_6 : callC Tryz.prog envK10 10000 1000 5 [.int .i64 ((90 : Nat) : Int), .int .i64 ((6 : Nat) : Int)] ⟨0, .nil⟩ truthC = true := by decide +kernel
theorem lowerLimits_90_7 : callC Tryz.prog envK10 10000 1000 5 [.int .i64 ((90 : Nat) : Int), .int .i64 ((7 : Nat) : Int)] ⟨0, .nil⟩ truthC = true := by decide +kernel
theorem lowerLimits_90_8 : callC Tryz.prog envK10 10000 1000 5 [.int .i64 ((90 : Nat) : Int), .int .i64 ((8 : Nat) : Int)] ⟨0, .nil⟩ truthC = true := by decide +kernel
theorem lowerLimits_91_0 : callC Tryz.prog envK10 10000 1000 5 [.int .i64 ((91 : Nat) : Int), .int .i64 ((0 : Nat) : Int)] ⟨0, .nil⟩ truthC = true := by decide +kernel
theorem lowerLimits_91_1 : callC Tryz.prog envK10 10000 1000 5 [.int .i64 ((91 : Nat) : Int), .int .i64 ((1 : Nat) : Int)] ⟨0, .nil⟩ truthC = true := by decide +kernel
theorem lowerLimits_91_2 : callC Tryz.prog envK10 10000 1000 5 [.int .i64 ((91 : Nat) : Int), .int .i64 ((2 : Nat) : Int)] ⟨0, .nil⟩ truthC = true := by decide +kernel
theorem lowerLimits_91_3 : callC Tryz.prog envK10 10000 1000 5 [.int .i64 ((91 : Nat) : Int), .int .i64 ((3 : Nat) : Int)] ⟨0, .nil⟩ truthC = true := by decide +kernel
theorem lowerLimits_91_4 : callC Tryz.prog envK10 10000 1000 5 [.int .i64 ((91 : Nat) : Int), .int .i64 ((4 : Nat) : Int)] ⟨0, .nil⟩ truthC = true := by decide +kernel
theorem lowerLimits_91_5 : callC Tryz.prog envK10 10000 1000 5 [.int .i64 ((91 : Nat) : Int), .int .i64 ((5 : Nat) : Int)] ⟨0, .nil⟩ truthC = true := by decide +kernel
theorem lowerLimits_91_6 : callC Tryz.prog envK10 10000 1000 5 [.int .i64 ((91 : Nat) : Int), .int .i64 ((6 : Nat) : Int)] ⟨0, .nil⟩ truthC = true := by decide +kernel
theorem lowerLimits_91_7 : callC Tryz.prog envK10 10000 1000 5 [.int .i64 ((91 : Nat) : Int), .int .i64 ((7 : Nat) : Int)] ⟨0, .nil⟩ truthC = true := by decide +kernel
theorem lowerLimits_91_8 : callC Tryz.prog envK10 10000 1000 5 [.int .i64 ((91 : Nat) : Int), .int .i64 ((8 : Nat) : Int)] ⟨0, .nil⟩ truthC = true := by decide +kernel
theorem lowerLimits_92_0 : callC Tryz.prog envK10 10000 1000 5 [.int .i64 ((92 : Nat) : Int), .int .i64 ((0 : Nat) : Int)] ⟨0, .nil⟩ truthC = true := by decide +kernel
theorem lowerLimits_92_1 : callC Tryz.prog envK10 10000 1000 5 [.int .i64 ((92 : Nat) : Int), .int .i64 ((1 : Nat) : Int)] ⟨0, .nil⟩ truthC = true := by decide +kernel
theorem lowerLimits_92_2 : callC Tryz.prog envK10 10000 1000 5 [.int .i64 ((92 : Nat) : Int), .int .i64 ((2 : Nat) : Int)] ⟨0, .nil⟩ truthC = true := by decide +kernel
theorem lowerLimits_92_3 : callC Tryz.prog envK10 10000 1000 5 [.int .i64 ((92 : Nat) : Int), .int .i64 ((3 : Nat) : Int)] ⟨0, .nil⟩ truthC = true := by decide +kernel
theorem lowerLimits_92_4 : callC Tryz.prog envK10 10000 1000 5 [.int .i64 ((92 : Nat) : Int), .int .i64 ((4 : Nat) : Int)] ⟨0, .nil⟩ truthC = true := by decide +kernel
theorem lowerLimits_92_5 : callC Tryz.prog envK10 10000 1000 5 [.int .i64 ((92 : Nat) : Int), .int .i64 ((5 : Nat) : Int)] ⟨0, .nil⟩ truthC = true := by decide +kernel
theorem lowerLimits_92_6 : callC Tryz.prog envK10 10000 1000 5 [.int .i64 ((92 : Nat) : Int), .int .i64 ((6 : Nat) : Int)] ⟨0, .nil⟩ truthC = true := by decide +kernel
theorem lowerLimits_92_7 : callC Tryz.prog envK10 10000 1000 5 [.int .i64 ((92 : Nat) : Int), .int .i64 ((7 : Nat) : Int)] ⟨0, .nil⟩ truthC = true := by decide +kernel
theorem lowerLimits_92_8 : callC Tryz.prog envK10 10000 1000 5 [.int .i64 ((92 : Nat) : Int), .int .i64 ((8 : Nat) : Int)] ⟨0, .nil⟩ truthC = true := by decide +kernel
theorem lowerLimits_93_0 : callC Tryz.prog envK10 10000 1000 5 [.int .i64 ((93 : Nat) : Int), .int .i64 ((0 : Nat) : Int)] ⟨0, .nil⟩ truthC = true := by decide +kernel
theorem lowerLimits_93_1 : callC Tryz.prog envK10 10000 1000 5 [.int .i64 ((93 : Nat) : Int), .int .i64 ((1 : Nat) : Int)] ⟨0, .nil⟩ truthC = true := by decide +kernel
theorem lowerLimits_93_2 : callC Tryz.prog envK10 10000 1000 5 [.int .i64 ((93 : Nat) : Int), .int .i64 ((2 : Nat) : Int)] ⟨0, .nil⟩ truthC = true := by decide +kernel
theorem lowerLimits_93_3 : callC Tryz.prog envK10 10000 1000 5 [.int .i64 ((93 : Nat) : Int), .int .i64 ((3 : Nat) : Int)] ⟨0, .nil⟩ truthC = true := by decide +kernel
theorem lowerLimits_93_4 : callC Tryz.prog envK10 10000 1000 5 [.int .i64 ((93 : Nat) : Int), .int .i64 ((4 : Nat) : Int)] ⟨0, .nil⟩ truthC = true := by decide +kernel
theorem lowerLimits_93_5 : callC Tryz.prog envK10 10000 1000 5 [.int .i64 ((93 : Nat) : Int), .int .i64 ((5 : Nat) : Int)] ⟨0, .nil⟩ truthC = true := by decide +kernel
theorem lowerLimits_93_6 : callC Tryz.prog envK10 10000 1000 5 [.int .i64 ((93 : Nat) : Int), .int .i64 ((6 : Nat) : Int)] ⟨0, .nil⟩ truthC = true := by decide +kernel
theorem lowerLimits_93_7 : callC Tryz.prog envK10 10000 1000 5 [.int .i64 ((93 : Nat) : Int), .int .i64 ((7 : Nat) : Int)] ⟨0, .nil⟩ truthC = true := by decide +kernel
theorem lowerLimits_93_8 : callC Tryz.prog envK10 10000 1000 5 [.int .i64 ((93 : Nat) : Int), .int .i64 ((8 : Nat) : Int)] ⟨0, .nil⟩ truthC = true := by decide +kernel
theorem lowerLimits_94_0 : callC Tryz.prog envK10 10000 1000 5 [.int .i64 ((94 : Nat) : Int), .int .i64 ((0 : Nat) : Int)] ⟨0, .nil⟩ truthC = true := by decide +kernel
theorem lowerLimits_94_1 : callC Tryz.prog envK10 10000 1000 5 [.int .i64 ((94 : Nat) : Int), .int .i64 ((1 : Nat) : Int)] ⟨0, .nil⟩ truthC = true := by decide +kernel
theorem lowerLimits_94_2 : callC Tryz.prog envK10 10000 1000 5 [.int .i64 ((94 : Nat) : Int), .int .i64 ((2 : Nat) : Int)] ⟨0, .nil⟩ truthC = true := by decide +kernel
theorem lowerLimits_94_3 : callC Tryz.prog envK10 10000 1000 5 [.int .i64 ((94 : Nat) : Int), .int .i64 ((3 : Nat) : Int)] ⟨0, .nil⟩ truthC = true := by decide +kernel
theorem lowerLimits_94_4 : callC Tryz.prog envK10 10000 1000 5 [.int .i64 ((94 : Nat) : Int), .int .i64 ((4 : Nat) : Int)] ⟨0, .nil⟩ truthC = true := by decide +kernel
theorem lowerLimits_94_5 : callC Tryz.prog envK10 10000 1000 5 [.int .i64 ((94 : Nat) : Int), .int .i64 ((5 : Nat) : Int)] ⟨0, .nil⟩ truthC = true := by decide +kernel
theorem lowerLimits_94_6 : callC Tryz.prog envK10 10000 1000 5 [.int .i64 ((94 : Nat) : Int), .int .i64 ((6 : Nat) : Int)] ⟨0, .nil⟩ truthC = true := by decide +kernel
theorem lowerLimits_94_7 : callC Tryz.prog envK10 10000 1000 5 [.int .i64 ((94 : Nat) : Int), .int .i64 ((7 : Nat) : Int)] ⟨0, .nil⟩ truthC = true := by decide +kernel
theorem lowerLimits_94_8 : callC Tryz.prog envK10 10000 1000 5 [.int .i64 ((94 : Nat) : Int), .int .i64 ((8 : Nat) : Int)] ⟨0, .nil⟩ truthC = true := by decide +kernel

end Go.Proofs.YtaoglicedcgnoaaGreatDoor
