/-
  'LowerLimits', reckoned: first parameter 60 to 64.
-/
import Derived.Test.YtaoglicedcgnoaaGreatDoorKnown10
namespace Go.Proofs.YtaoglicedcgnoaaGreatDoor
open Go
set_option maxRecDepth 1000000

theorem lowerLimits_60_0 : callC Tryz.prog envK10 10000 1000 5 [.int .i64 ((60 : Nat) : Int), .int .i64 ((0 : Nat) : Int)] ⟨0, .nil⟩ truthC = true := by decide +kernel
theorem lowerLimits_60_1 : callC Tryz.prog envK10 10000 1000 5 [.int .i64 ((60 : Nat) : Int), .int .i64 ((1 : Nat) : Int)] ⟨0, .nil⟩ truthC = true := by decide +kernel
theorem lowerLimits_60_2 : callC Tryz.prog envK10 10000 1000 5 [.int .i64 ((60 : Nat) : Int), .int .i64 ((2 : Nat) : Int)] ⟨0, .nil⟩ truthC = true := by decide +kernel
theorem lowerLimits_60_3 : callC Tryz.prog envK10 10000 1000 5 [.int .i64 ((60 : Nat) : Int), .int .i64 ((3 : Nat) : Int)] ⟨0, .nil⟩ truthC = true := by decide +kernel
theorem lowerLimits_60_4 : callC Tryz.prog envK10 10000 1000 5 [.int .i64 ((60 : Nat) : Int), .int .i64 ((4 : Nat) : Int)] ⟨0, .nil⟩ truthC = true := by decide +kernel
theorem lowerLimits_60_5 : callC Tryz.prog envK10 10000 1000 5 [.int .i64 ((60 : Nat) : Int), .int .i64 ((5 : Nat) : Int)] ⟨0, .nil⟩ truthC = true := by decide +kernel
theorem lowerLimits_60_6 : callC Tryz.prog envK10 10000 1000 5 [.int .i64 ((60 : Nat) : Int), .int .i64 ((6 : Nat) : Int)] ⟨0, .nil⟩ truthC = true := by decide +kernel
theorem lowerLimits_60_7 : callC Tryz.prog envK10 10000 1000 5 [.int .i64 ((60 : Nat) : Int), .int .i64 ((7 : Nat) : Int)] ⟨0, .nil⟩ truthC = true := by decide +kernel
theorem lowerLimits_60_8 : callC Tryz.prog envK10 10000 1000 5 [.int .i64 ((60 : Nat) : Int), .int .i64 ((8 : Nat) : Int)] ⟨0, .nil⟩ truthC = true := by decide +kernel
theorem lowerLimits_61_0 : callC Tryz.prog envK10 10000 1000 5 [.int .i64 ((61 : Nat) : Int), .int .i64 ((0 : Nat) : Int)] ⟨0, .nil⟩ truthC = true := by decide +kernel
theorem lowerLimits_61_1 : callC Tryz.prog envK10 10000 1000 5 [.int .i64 ((61 : Nat) : Int), .int .i64 ((1 : Nat) : Int)] ⟨0, .nil⟩ truthC = true := by decide +kernel
theorem lowerLimits_61_2 : callC Tryz.prog envK10 10000 1000 5 [.int .i64 ((61 : Nat) : Int), .int .i64 ((2 : Nat) : Int)] ⟨0, .nil⟩ truthC = true := by decide +kernel
theorem lowerLimits_61_3 : callC Tryz.prog envK10 10000 1000 5 [.int .i64 ((61 : Nat) : Int), .int .i64 ((3 : Nat) : Int)] ⟨0, .nil⟩ truthC = true := by decide +kernel
theorem lowerLimits_61_4 : callC Tryz.prog envK10 10000 1000 5 [.int .i64 ((61 : Nat) : Int), .int .i64 ((4 : Nat) : Int)] ⟨0, .nil⟩ truthC = true := by decide +kernel
theorem lowerLimits_61_5 : callC Tryz.prog envK10 10000 1000 5 [.int .i64 ((61 : Nat) : Int), .int .i64 ((5 : Nat) : Int)] ⟨0, .nil⟩ truthC = true := by decide +kernel
theorem lowerLimits_61_6 : callC Tryz.prog envK10 10000 1000 5 [.int .i64 ((61 : Nat) : Int), .int .i64 ((6 : Nat) : Int)] ⟨0, .nil⟩ truthC = true := by decide +kernel
theorem lowerLimits_61_7 : callC Tryz.prog envK10 10000 1000 5 [.int .i64 ((61 : Nat) : Int), .int .i64 ((7 : Nat) : Int)] ⟨0, .nil⟩ truthC = true := by decide +kernel
theorem lowerLimits_61_8 : callC Tryz.prog envK10 10000 1000 5 [.int .i64 ((61 : Nat) : Int), .int .i64 ((8 : Nat) : Int)] ⟨0, .nil⟩ truthC = true := by decide +kernel
theorem lowerLimits_62_0 : callC Tryz.prog envK10 10000 1000 5 [.int .i64 ((62 : Nat) : Int), .int .i64 ((0 : Nat) : Int)] ⟨0, .nil⟩ truthC = true := by decide +kernel
theorem lowerLimits_62_1 : callC Tryz.prog envK10 10000 1000 5 [.int .i64 ((62 : Nat) : Int), .int .i64 ((1 : Nat) : Int)] ⟨0, .nil⟩ truthC = true := by decide +kernel
theorem lowerLimits_62_2 : callC Tryz.prog envK10 10000 1000 5 [.int .i64 ((62 : Nat) : Int), .int .i64 ((2 : Nat) : Int)] ⟨0, .nil⟩ truthC = true := by decide +kernel
theorem lowerLimits_62_3 : callC Tryz.prog envK10 10000 1000 5 [.int .i64 ((62 : Nat) : Int), .int .i64 ((3 : Nat) : Int)] ⟨0, .nil⟩ truthC = true := by decide +kernel
theorem lowerLimits_62_4 : callC Tryz.prog envK10 10000 1000 5 [.int .i64 ((62 : Nat) : Int), .int .i64 ((4 : Nat) : Int)] ⟨0, .nil⟩ truthC = true := by decide +kernel
theorem lowerLimits_62_5 : callC Tryz.prog envK10 10000 1000 5 [.int .i64 ((62 : Nat) : Int), .int .i64 ((5 : Nat) : Int)] ⟨0, .nil⟩ truthC = true := by decide +kernel
theorem lowerLimits_62_6 : callC Tryz.prog envK10 10000 1000 5 [.int .i64 ((62 : Nat) : Int), .int .i64 ((6 : Nat) : Int)] ⟨0, .nil⟩ truthC = true := by decide +kernel
theorem lowerLimits_62_7 : callC Tryz.prog envK10 10000 1000 5 [.int .i64 ((62 : Nat) : Int), .int .i64 ((7 : Nat) : Int)] ⟨0, .nil⟩ truthC = true := by decide +kernel
theorem lowerLimits_62_8 : callC Tryz.prog envK10 10000 1000 5 [.int .i64 ((62 : Nat) : Int), .int .i64 ((8 : Nat) : Int)] ⟨0, .nil⟩ truthC = true := by decide +kernel
theorem lowerLimits_63_0 : callC Tryz.prog envK10 10000 1000 5 [.int .i64 ((63 : Nat) : Int), .int .i64 ((0 : Nat) : Int)] ⟨0, .nil⟩ truthC = true := by decide +kernel
theorem lowerLimits_63_1 : callC Tryz.prog envK10 10000 1000 5 [.int .i64 ((63 : Nat) : Int), .int .i64 ((1 : Nat) : Int)] ⟨0, .nil⟩ truthC = true := by decide +kernel
theorem lowerLimits_63_2 : callC Tryz.prog envK10 10000 1000 5 [.int .i64 ((63 : Nat) : Int), .int .i64 ((2 : Nat) : Int)] ⟨0, .nil⟩ truthC = true := by decide +kernel
theorem lowerLimits_63_3 : callC Tryz.prog envK10 10000 1000 5 [.int .i64 ((63 : Nat) : Int), .int .i64 ((3 : Nat) : Int)] ⟨0, .nil⟩ truthC = true := by decide +kernel
theorem lowerLimits_63_4 : callC Tryz.prog envK10 10000 1000 5 [.int .i64 ((63 : Nat) : Int), .int .i64 ((4 : Nat) : Int)] ⟨0, .nil⟩ truthC = true := by decide +kernel
theorem lowerLimits_63_5 : callC Tryz.prog envK10 10000 1000 5 [.int .i64 ((63 : Nat) : Int), .int .i64 ((5 : Nat) : Int)] ⟨0, .nil⟩ truthC = true := by decide +kernel
theorem lowerLimits_63_6 : callC Tryz.prog envK10 10000 1000 5 [.int .i64 ((63 : Nat) : Int), .int .i64 ((6 : Nat) : Int)] ⟨0, .nil⟩ truthC = true := by decide +kernel
theorem lowerLimits_63_7 : callC Tryz.prog envK10 10000 1000 5 [.int .i64 ((63 : Nat) : Int), .int .i64 ((7 : Nat) : Int)] ⟨0, .nil⟩ truthC = true := by decide +kernel
theorem lowerLimits_63_8 : callC Tryz.prog envK10 10000 1000 5 [.int .i64 ((63 : Nat) : Int), .int .i64 ((8 : Nat) : Int)] ⟨0, .nil⟩ truthC = true := by decide +kernel
theorem lowerLimits_64_0 : callC Tryz.prog envK10 10000 1000 5 [.int .i64 ((64 : Nat) : Int), .int .i64 ((0 : Nat) : Int)] ⟨0, .nil⟩ truthC = true := by decide +kernel
theorem lowerLimits_64_1 : callC Tryz.prog envK10 10000 1000 5 [.int .i64 ((64 : Nat) : Int), .int .i64 ((1 : Nat) : Int)] ⟨0, .nil⟩ truthC = true := by decide +kernel
theorem lowerLimits_64_2 : callC Tryz.prog envK10 10000 1000 5 [.int .i64 ((64 : Nat) : Int), .int .i64 ((2 : Nat) : Int)] ⟨0, .nil⟩ truthC = true := by decide +kernel
theorem lowerLimits_64_3 : callC Tryz.prog envK10 10000 1000 5 [.int .i64 ((64 : Nat) : Int), .int .i64 ((3 : Nat) : Int)] ⟨0, .nil⟩ truthC = true := by decide +kernel
theorem lowerLimits_64_4 : callC Tryz.prog envK10 10000 1000 5 [.int .i64 ((64 : Nat) : Int), .int .i64 ((4 : Nat) : Int)] ⟨0, .nil⟩ truthC = true := by decide +kernel
theorem lowerLimits_64_5 : callC Tryz.prog envK10 10000 1000 5 [.int .i64 ((64 : Nat) : Int), .int .i64 ((5 : Nat) : Int)] ⟨0, .nil⟩ truthC = true := by decide +kernel
theorem lowerLimits_64_6 : callC Tryz.prog envK10 10000 1000 5 [.int .i64 ((64 : Nat) : Int), .int .i64 ((6 : Nat) : Int)] ⟨0, .nil⟩ truthC = true := by decide +kernel
theorem lowerLimits_64_7 : callC Tryz.prog envK10 10000 1000 5 [.int .i64 ((64 : Nat) : Int), .int .i64 ((7 : Nat) : Int)] ⟨0, .nil⟩ truthC = true := by decide +kernel
theorem lowerLimits_64_8 : callC Tryz.prog envK10 10000 1000 5 [.int .i64 ((64 : Nat) : Int), .int .i64 ((8 : Nat) : Int)] ⟨0, .nil⟩ truthC = true := by decide +kernel

end Go.Proofs.YtaoglicedcgnoaaGreatDoor
