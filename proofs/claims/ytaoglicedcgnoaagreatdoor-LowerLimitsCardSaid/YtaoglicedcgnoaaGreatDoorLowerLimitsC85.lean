/-
  'LowerLimits', reckoned: first parameter 85 to 89.
-/
import Derived.Test.YtaoglicedcgnoaaGreatDoorKnown10
namespace Go.Proofs.YtaoglicedcgnoaaGreatDoor
open Go
set_option maxRecDepth 1000000

theorem lowerLimits_85_0 : callC Tryz.prog envK10 10000 1000 5 [.int .i64 ((85 : Nat) : Int), .int .i64 ((0 : Nat) : Int)] ⟨0, .nil⟩ truthC = true := by decide +kernel
theorem lowerLimits_85_1 : callC Tryz.prog envK10 10000 1000 5 [.int .i64 ((85 : Nat) : Int), .int .i64 ((1 : Nat) : Int)] ⟨0, .nil⟩ truthC = true := by decide +kernel
theorem lowerLimits_85_2 : callC Tryz.prog envK10 10000 1000 5 [.int .i64 ((85 : Nat) : Int), .int .i64 ((2 : Nat) : Int)] ⟨0, .nil⟩ truthC = true := by decide +kernel
theorem lowerLimits_85_3 : callC Tryz.prog envK10 10000 1000 5 [.int .i64 ((85 : Nat) : Int), .int .i64 ((3 : Nat) : Int)] ⟨0, .nil⟩ truthC = true := by decide +kernel
theorem lowerLimits_85_4 : callC Tryz.prog envK10 10000 1000 5 [.int .i64 ((85 : Nat) : Int), .int .i64 ((4 : Nat) : Int)] ⟨0, .nil⟩ truthC = true := by decide +kernel
theorem lowerLimits_85_5 : callC Tryz.prog envK10 10000 1000 5 [.int .i64 ((85 : Nat) : Int), .int .i64 ((5 : Nat) : Int)] ⟨0, .nil⟩ truthC = true := by decide +kernel
theorem lowerLimits_85_6 : callC Tryz.prog envK10 10000 1000 5 [.int .i64 ((85 : Nat) : Int), .int .i64 ((6 : Nat) : Int)] ⟨0, .nil⟩ truthC = true := by decide +kernel
theorem lowerLimits_85_7 : callC Tryz.prog envK10 10000 1000 5 [.int .i64 ((85 : Nat) : Int), .int .i64 ((7 : Nat) : Int)] ⟨0, .nil⟩ truthC = true := by decide +kernel
theorem lowerLimits_85_8 : callC Tryz.prog envK10 10000 1000 5 [.int .i64 ((85 : Nat) : Int), .int .i64 ((8 : Nat) : Int)] ⟨0, .nil⟩ truthC = true := by decide +kernel
theorem lowerLimits_86_0 : callC Tryz.prog envK10 10000 1000 5 [.int .i64 ((86 : Nat) : Int), .int .i64 ((0 : Nat) : Int)] ⟨0, .nil⟩ truthC = true := by decide +kernel
theorem lowerLimits_86_1 : callC Tryz.prog envK10 10000 1000 5 [.int .i64 ((86 : Nat) : Int), .int .i64 ((1 : Nat) : Int)] ⟨0, .nil⟩ truthC = true := by decide +kernel
theorem lowerLimits_86_2 : callC Tryz.prog envK10 10000 1000 5 [.int .i64 ((86 : Nat) : Int), .int .i64 ((2 : Nat) : Int)] ⟨0, .nil⟩ truthC = true := by decide +kernel
theorem lowerLimits_86_3 : callC Tryz.prog envK10 10000 1000 5 [.int .i64 ((86 : Nat) : Int), .int .i64 ((3 : Nat) : Int)] ⟨0, .nil⟩ truthC = true := by decide +kernel
theorem lowerLimits_86_4 : callC Tryz.prog envK10 10000 1000 5 [.int .i64 ((86 : Nat) : Int), .int .i64 ((4 : Nat) : Int)] ⟨0, .nil⟩ truthC = true := by decide +kernel
theorem lowerLimits_86_5 : callC Tryz.prog envK10 10000 1000 5 [.int .i64 ((86 : Nat) : Int), .int .i64 ((5 : Nat) : Int)] ⟨0, .nil⟩ truthC = true := by decide +kernel
theorem lowerLimits_86_6 : callC Tryz.prog envK10 10000 1000 5 [.int .i64 ((86 : Nat) : Int), .int .i64 ((6 : Nat) : Int)] ⟨0, .nil⟩ truthC = true := by decide +kernel
theorem lowerLimits_86_7 : callC Tryz.prog envK10 10000 1000 5 [.int .i64 ((86 : Nat) : Int), .int .i64 ((7 : Nat) : Int)] ⟨0, .nil⟩ truthC = true := by decide +kernel
theorem lowerLimits_86_8 : callC Tryz.prog envK10 10000 1000 5 [.int .i64 ((86 : Nat) : Int), .int .i64 ((8 : Nat) : Int)] ⟨0, .nil⟩ truthC = true := by decide +kernel
theorem lowerLimits_87_0 : callC Tryz.prog envK10 10000 1000 5 [.int .i64 ((87 : Nat) : Int), .int .i64 ((0 : Nat) : Int)] ⟨0, .nil⟩ truthC = true := by decide +kernel
theorem lowerLimits_87_1 : callC Tryz.prog envK10 10000 1000 5 [.int .i64 ((87 : Nat) : Int), .int .i64 ((1 : Nat) : Int)] ⟨0, .nil⟩ truthC = true := by decide +kernel
theorem lowerLimits_87_2 : callC Tryz.prog envK10 10000 1000 5 [.int .i64 ((87 : Nat) : Int), .int .i64 ((2 : Nat) : Int)] ⟨0, .nil⟩ truthC = true := by decide +kernel
theorem lowerLimits_87_3 : callC Tryz.prog envK10 10000 1000 5 [.int .i64 ((87 : Nat) : Int), .int .i64 ((3 : Nat) : Int)] ⟨0, .nil⟩ truthC = true := by decide +kernel
theorem lowerLimits_87_4 : callC Tryz.prog envK10 10000 1000 5 [.int .i64 ((87 : Nat) : Int), .int .i64 ((4 : Nat) : Int)] ⟨0, .nil⟩ truthC = true := by decide +kernel
theorem lowerLimits_87_5 : callC Tryz.prog envK10 10000 1000 5 [.int .i64 ((87 : Nat) : Int), .int .i64 ((5 : Nat) : Int)] ⟨0, .nil⟩ truthC = true := by decide +kernel
theorem lowerLimits_87_6 : callC Tryz.prog envK10 10000 1000 5 [.int .i64 ((87 : Nat) : Int), .int .i64 ((6 : Nat) : Int)] ⟨0, .nil⟩ truthC = true := by decide +kernel
theorem lowerLimits_87_7 : callC Tryz.prog envK10 10000 1000 5 [.int .i64 ((87 : Nat) : Int), .int .i64 ((7 : Nat) : Int)] ⟨0, .nil⟩ truthC = true := by decide +kernel
theorem lowerLimits_87_8 : callC Tryz.prog envK10 10000 1000 5 [.int .i64 ((87 : Nat) : Int), .int .i64 ((8 : Nat) : Int)] ⟨0, .nil⟩ truthC = true := by decide +kernel
theorem lowerLimits_88_0 : callC Tryz.prog envK10 10000 1000 5 [.int .i64 ((88 : Nat) : Int), .int .i64 ((0 : Nat) : Int)] ⟨0, .nil⟩ truthC = true := by decide +kernel
theorem lowerLimits_88_1 : callC Tryz.prog envK10 10000 1000 5 [.int .i64 ((88 : Nat) : Int), .int .i64 ((1 : Nat) : Int)] ⟨0, .nil⟩ truthC = true := by decide +kernel
theorem lowerLimits_88_2 : callC Tryz.prog envK10 10000 1000 5 [.int .i64 ((88 : Nat) : Int), .int .i64 ((2 : Nat) : Int)] ⟨0, .nil⟩ truthC = true := by decide +kernel
theorem lowerLimits_88_3 : callC Tryz.prog envK10 10000 1000 5 [.int .i64 ((88 : Nat) : Int), .int .i64 ((3 : Nat) : Int)] ⟨0, .nil⟩ truthC = true := by decide +kernel
theorem lowerLimits_88_4 : callC Tryz.prog envK10 10000 1000 5 [.int .i64 ((88 : Nat) : Int), .int .i64 ((4 : Nat) : Int)] ⟨0, .nil⟩ truthC = true := by decide +kernel
theorem lowerLimits_88_5 : callC Tryz.prog envK10 10000 1000 5 [.int .i64 ((88 : Nat) : Int), .int .i64 ((5 : Nat) : Int)] ⟨0, .nil⟩ truthC = true := by decide +kernel
theorem lowerLimits_88_6 : callC Tryz.prog envK10 10000 1000 5 [.int .i64 ((88 : Nat) : Int), .int .i64 ((6 : Nat) : Int)] ⟨0, .nil⟩ truthC = true := by decide +kernel
theorem lowerLimits_88_7 : callC Tryz.prog envK10 10000 1000 5 [.int .i64 ((88 : Nat) : Int), .int .i64 ((7 : Nat) : Int)] ⟨0, .nil⟩ truthC = true := by decide +kernel
theorem lowerLimits_88_8 : callC Tryz.prog envK10 10000 1000 5 [.int .i64 ((88 : Nat) : Int), .int .i64 ((8 : Nat) : Int)] ⟨0, .nil⟩ truthC = true := by decide +kernel
theorem lowerLimits_89_0 : callC Tryz.prog envK10 10000 1000 5 [.int .i64 ((89 : Nat) : Int), .int .i64 ((0 : Nat) : Int)] ⟨0, .nil⟩ truthC = true := by decide +kernel
theorem lowerLimits_89_1 : callC Tryz.prog envK10 10000 1000 5 [.int .i64 ((89 : Nat) : Int), .int .i64 ((1 : Nat) : Int)] ⟨0, .nil⟩ truthC = true := by decide +kernel
theorem lowerLimits_89_2 : callC Tryz.prog envK10 10000 1000 5 [.int .i64 ((89 : Nat) : Int), .int .i64 ((2 : Nat) : Int)] ⟨0, .nil⟩ truthC = true := by decide +kernel
theorem lowerLimits_89_3 : callC Tryz.prog envK10 10000 1000 5 [.int .i64 ((89 : Nat) : Int), .int .i64 ((3 : Nat) : Int)] ⟨0, .nil⟩ truthC = true := by decide +kernel
theorem lowerLimits_89_4 : callC Tryz.prog envK10 10000 1000 5 [.int .i64 ((89 : Nat) : Int), .int .i64 ((4 : Nat) : Int)] ⟨0, .nil⟩ truthC = true := by decide +kernel
theorem lowerLimits_89_5 : callC Tryz.prog envK10 10000 1000 5 [.int .i64 ((89 : Nat) : Int), .int .i64 ((5 : Nat) : Int)] ⟨0, .nil⟩ truthC = true := by decide +kernel
theorem lowerLimits_89_6 : callC Tryz.prog envK10 10000 1000 5 [.int .i64 ((89 : Nat) : Int), .int .i64 ((6 : Nat) : Int)] ⟨0, .nil⟩ truthC = true := by decide +kernel
theorem lowerLimits_89_7 : callC Tryz.prog envK10 10000 1000 5 [.int .i64 ((89 : Nat) : Int), .int .i64 ((7 : Nat) : Int)] ⟨0, .nil⟩ truthC = true := by decide +kernel
theorem lowerLimits_89_8 : callC Tryz.prog envK10 10000 1000 5 [.int .i64 ((89 : Nat) : Int), .int .i64 ((8 : Nat) : Int)] ⟨0, .nil⟩ truthC = true := by decide +kernel

end Go.Proofs.YtaoglicedcgnoaaGreatDoor
