/-
  'LowerLimits', reckoned: first parameter 95 to 99.
-/
import Derived.Test.YtaoglicedcgnoaaGreatDoorKnown10
namespace Go.Proofs.YtaoglicedcgnoaaGreatDoor
open Go
set_option maxRecDepth 1000000

theorem lowerLimits_95_0 : callC Tryz.prog envK10 10000 1000 5 [.int .i64 ((95 : Nat) : Int), .int .i64 ((0 : Nat) : Int)] ⟨0, .nil⟩ truthC = true := by decide +kernel
theorem lowerLimits_95_1 : callC Tryz.prog envK10 10000 1000 5 [.int .i64 ((95 : Nat) : Int), .int .i64 ((1 : Nat) : Int)] ⟨0, .nil⟩ truthC = true := by decide +kernel
theorem lowerLimits_95_2 : callC Tryz.prog envK10 10000 1000 5 [.int .i64 ((95 : Nat) : Int), .int .i64 ((2 : Nat) : Int)] ⟨0, .nil⟩ truthC = true := by decide +kernel
theorem lowerLimits_95_3 : callC Tryz.prog envK10 10000 1000 5 [.int .i64 ((95 : Nat) : Int), .int .i64 ((3 : Nat) : Int)] ⟨0, .nil⟩ truthC = true := by decide +kernel
theorem lowerLimits_95_4 : callC Tryz.prog envK10 10000 1000 5 [.int .i64 ((95 : Nat) : Int), .int .i64 ((4 : Nat) : Int)] ⟨0, .nil⟩ truthC = true := by decide +kernel
theorem lowerLimits_95_5 : callC Tryz.prog envK10 10000 1000 5 [.int .i64 ((95 : Nat) : Int), .int .i64 ((5 : Nat) : Int)] ⟨0, .nil⟩ truthC = true := by decide +kernel
theorem lowerLimits_95_6 : callC Tryz.prog envK10 10000 1000 5 [.int .i64 ((95 : Nat) : Int), .int .i64 ((6 : Nat) : Int)] ⟨0, .nil⟩ truthC = true := by decide +kernel
theorem lowerLimits_95_7 : callC Tryz.prog envK10 10000 1000 5 [.int .i64 ((95 : Nat) : Int), .int .i64 ((7 : Nat) : Int)] ⟨0, .nil⟩ truthC = true := by decide +kernel
theorem lowerLimits_95_8 : callC Tryz.prog envK10 10000 1000 5 [.int .i64 ((95 : Nat) : Int), .int .i64 ((8 : Nat) : Int)] ⟨0, .nil⟩ truthC = true := by decide +kernel
theorem lowerLimits_96_0 : callC Tryz.prog envK10 10000 1000 5 [.int .i64 ((96 : Nat) : Int), .int .i64 ((0 : Nat) : Int)] ⟨0, .nil⟩ truthC = true := by decide +kernel
theorem lowerLimits_96_1 : callC Tryz.prog envK10 10000 1000 5 [.int .i64 ((96 : Nat) : Int), .int .i64 ((1 : Nat) : Int)] ⟨0, .nil⟩ truthC = true := by decide +kernel
theorem lowerLimits_96_2 : callC Tryz.prog envK10 10000 1000 5 [.int .i64 ((96 : Nat) : Int), .int .i64 ((2 : Nat) : Int)] ⟨0, .nil⟩ truthC = true := by decide +kernel
theorem lowerLimits_96_3 : callC Tryz.prog envK10 10000 1000 5 [.int .i64 ((96 : Nat) : Int), .int .i64 ((3 : Nat) : Int)] ⟨0, .nil⟩ truthC = true := by decide +kernel
theorem lowerLimits_96_4 : callC Tryz.prog envK10 10000 1000 5 [.int .i64 ((96 : Nat) : Int), .int .i64 ((4 : Nat) : Int)] ⟨0, .nil⟩ truthC = true := by decide +kernel
theorem lowerLimits_96_5 : callC Tryz.prog envK10 10000 1000 5 [.int .i64 ((96 : Nat) : Int), .int .i64 ((5 : Nat) : Int)] ⟨0, .nil⟩ truthC = true := by decide +kernel
theorem lowerLimits_96_6 : callC Tryz.prog envK10 10000 1000 5 [.int .i64 ((96 : Nat) : Int), .int .i64 ((6 : Nat) : Int)] ⟨0, .nil⟩ truthC = true := by decide +kernel
theorem lowerLimits_96_7 : callC Tryz.prog envK10 10000 1000 5 [.int .i64 ((96 : Nat) : Int), .int .i64 ((7 : Nat) : Int)] ⟨0, .nil⟩ truthC = true := by decide +kernel
theorem lowerLimits_96_8 : callC Tryz.prog envK10 10000 1000 5 [.int .i64 ((96 : Nat) : Int), .int .i64 ((8 : Nat) : Int)] ⟨0, .nil⟩ truthC = true := by decide +kernel
theorem lowerLimits_97_0 : callC Tryz.prog envK10 10000 1000 5 [.int .i64 ((97 : Nat) : Int), .int .i64 ((0 : Nat) : Int)] ⟨0, .nil⟩ truthC = true := by decide +kernel
theorem lowerLimits_97_1 : callC Tryz.prog envK10 10000 1000 5 [.int .i64 ((97 : Nat) : Int), .int .i64 ((1 : Nat) : Int)] ⟨0, .nil⟩ truthC = true := by decide +kernel
theorem lowerLimits_97_2 : callC Tryz.prog envK10 10000 1000 5 [.int .i64 ((97 : Nat) : Int), .int .i64 ((2 : Nat) : Int)] ⟨0, .nil⟩ truthC = true := by decide +kernel
theorem lowerLimits_97_3 : callC Tryz.prog envK10 10000 1000 5 [.int .i64 ((97 : Nat) : Int), .int .i64 ((3 : Nat) : Int)] ⟨0, .nil⟩ truthC = true := by decide +kernel
theorem lowerLimits_97_4 : callC Tryz.prog envK10 10000 1000 5 [.int .i64 ((97 : Nat) : Int), .int .i64 ((4 : Nat) : Int)] ⟨0, .nil⟩ truthC = true := by decide +kernel
theorem lowerLimits_97_5 : callC Tryz.prog envK10 10000 1000 5 [.int .i64 ((97 : Nat) : Int), .int .i64 ((5 : Nat) : Int)] ⟨0, .nil⟩ truthC = true := by decide +kernel
theorem lowerLimits_97_6 : callC Tryz.prog envK10 10000 1000 5 [.int .i64 ((97 : Nat) : Int), .int .i64 ((6 : Nat) : Int)] ⟨0, .nil⟩ truthC = true := by decide +kernel
theorem lowerLimits_97_7 : callC Tryz.prog envK10 10000 1000 5 [.int .i64 ((97 : Nat) : Int), .int .i64 ((7 : Nat) : Int)] ⟨0, .nil⟩ truthC = true := by decide +kernel
theorem lowerLimits_97_8 : callC Tryz.prog envK10 10000 1000 5 [.int .i64 ((97 : Nat) : Int), .int .i64 ((8 : Nat) : Int)] ⟨0, .nil⟩ truthC = true := by decide +kernel
theorem lowerLimits_98_0 : callC Tryz.prog envK10 10000 1000 5 [.int .i64 ((98 : Nat) : Int), .int .i64 ((0 : Nat) : Int)] ⟨0, .nil⟩ truthC = true := by decide +kernel
theorem lowerLimits_98_1 : callC Tryz.prog envK10 10000 1000 5 [.int .i64 ((98 : Nat) : Int), .int .i64 ((1 : Nat) : Int)] ⟨0, .nil⟩ truthC = true := by decide +kernel
theorem lowerLimits_98_2 : callC Tryz.prog envK10 10000 1000 5 [.int .i64 ((98 : Nat) : Int), .int .i64 ((2 : Nat) : Int)] ⟨0, .nil⟩ truthC = true := by decide +kernel
theorem lowerLimits_98_3 : callC Tryz.prog envK10 10000 1000 5 [.int .i64 ((98 : Nat) : Int), .int .i64 ((3 : Nat) : Int)] ⟨0, .nil⟩ truthC = true := by decide +kernel
theorem lowerLimits_98_4 : callC Tryz.prog envK10 10000 1000 5 [.int .i64 ((98 : Nat) : Int), .int .i64 ((4 : Nat) : Int)] ⟨0, .nil⟩ truthC = true := by decide +kernel
theorem lowerLimits_98_5 : callC Tryz.prog envK10 10000 1000 5 [.int .i64 ((98 : Nat) : Int), .int .i64 ((5 : Nat) : Int)] ⟨0, .nil⟩ truthC = true := by decide +kernel
theorem lowerLimits_98_6 : callC Tryz.prog envK10 10000 1000 5 [.int .i64 ((98 : Nat) : Int), .int .i64 ((6 : Nat) : Int)] ⟨0, .nil⟩ truthC = true := by decide +kernel
theorem lowerLimits_98_7 : callC Tryz.prog envK10 10000 1000 5 [.int .i64 ((98 : Nat) : Int), .int .i64 ((7 : Nat) : Int)] ⟨0, .nil⟩ truthC = true := by decide +kernel
theorem lowerLimits_98_8 : callC Tryz.prog envK10 10000 1000 5 [.int .i64 ((98 : Nat) : Int), .int .i64 ((8 : Nat) : Int)] ⟨0, .nil⟩ truthC = true := by decide +kernel
theorem lowerLimits_99_0 : callC Tryz.prog envK10 10000 1000 5 [.int .i64 ((99 : Nat) : Int), .int .i64 ((0 : Nat) : Int)] ⟨0, .nil⟩ truthC = true := by decide +kernel
theorem lowerLimits_99_1 : callC Tryz.prog envK10 10000 1000 5 [.int .i64 ((99 : Nat) : Int), .int .i64 ((1 : Nat) : Int)] ⟨0, .nil⟩ truthC = true := by decide +kernel
theorem lowerLimits_99_2 : callC Tryz.prog envK10 10000 1000 5 [.int .i64 ((99 : Nat) : Int), .int .i64 ((2 : Nat) : Int)] ⟨0, .nil⟩ truthC = true := by decide +kernel
theorem lowerLimits_99_3 : callC Tryz.prog envK10 10000 1000 5 [.int .i64 ((99 : Nat) : Int), .int .i64 ((3 : Nat) : Int)] ⟨0, .nil⟩ truthC = true := by decide +kernel
theorem lowerLimits_99_4 : callC Tryz.prog envK10 10000 1000 5 [.int .i64 ((99 : Nat) : Int), .int .i64 ((4 : Nat) : Int)] ⟨0, .nil⟩ truthC = true := by decide +kernel
theorem lowerLimits_99_5 : callC Tryz.prog envK10 10000 1000 5 [.int .i64 ((99 : Nat) : Int), .int .i64 ((5 : Nat) : Int)] ⟨0, .nil⟩ truthC = true := by decide +kernel
theorem lowerLimits_99_6 : callC Tryz.prog envK10 10000 1000 5 [.int .i64 ((99 : Nat) : Int), .int .i64 ((6 : Nat) : Int)] ⟨0, .nil⟩ truthC = true := by decide +kernel
theorem lowerLimits_99_7 : callC Tryz.prog envK10 10000 1000 5 [.int .i64 ((99 : Nat) : Int), .int .i64 ((7 : Nat) : Int)] ⟨0, .nil⟩ truthC = true := by decide +kernel
theorem lowerLimits_99_8 : callC Tryz.prog envK10 10000 1000 5 [.int .i64 ((99 : Nat) : Int), .int .i64 ((8 : Nat) : Int)] ⟨0, .nil⟩ truthC = true := by decide +kernel

end Go.Proofs.YtaoglicedcgnoaaGreatDoor
