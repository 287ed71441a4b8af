/-
  'LowerLimits', reckoned: first parameter 80 to 84.
-/
import Derived.Test.YtaoglicedcgnoaaGreatDoorKnown10
namespace Go.Proofs.YtaoglicedcgnoaaGreatDoor
open Go
set_option maxRecDepth 1000000

theorem lowerLimits_80_0 : callC Tryz.prog envK10 10000 1000 5 [.int .i64 ((80 : Nat) : Int), .int .i64 ((0 : Nat) : Int)] ⟨0, .nil⟩ truthC = true := by decide +kernel
theorem lowerLimits_80_1 : callC Tryz.prog envK10 10000 1000 5 [.int .i64 ((80 : Nat) : Int), .int .i64 ((1 : Nat) : Int)] ⟨0, .nil⟩ truthC = true := by decide +kernel
theorem lowerLimits_80_2 : callC Tryz.prog envK10 10000 1000 5 [.int .i64 ((80 : Nat) : Int), .int .i64 ((2 : Nat) : Int)] ⟨0, .nil⟩ truthC = true := by decide +kernel
theorem lowerLimits_80_3 : callC Tryz.prog envK10 10000 1000 5 [.int .i64 ((80 : Nat) : Int), .int .i64 ((3 : Nat) : Int)] ⟨0, .nil⟩ truthC = true := by decide +kernel
theorem lowerLimits_80_4 : callC Tryz.prog envK10 10000 1000 5 [.int .i64 ((80 : Nat) : Int), .int .i64 ((4 : Nat) : Int)] ⟨0, .nil⟩ truthC = true := by decide +kernel
theorem lowerLimits_80_5 : callC Tryz.prog envK10 10000 1000 5 [.int .i64 ((80 : Nat) : Int), .int .i64 ((5 : Nat) : Int)] ⟨0, .nil⟩ truthC = true := by decide +kernel
theorem lowerLimits_80_6 : callC Tryz.prog envK10 10000 1000 5 [.int .i64 ((80 : Nat) : Int), .int .i64 ((6 : Nat) : Int)] ⟨0, .nil⟩ truthC = true := by decide +kernel
theorem lowerLimits_80_7 : callC Tryz.prog envK10 10000 1000 5 [.int .i64 ((80 : Nat) : Int), .int .i64 ((7 : Nat) : Int)] ⟨0, .nil⟩ truthC = true := by decide +kernel
theorem lowerLimits_80_8 : callC Tryz.prog envK10 10000 1000 5 [.int .i64 ((80 : Nat) : Int), .int .i64 ((8 : Nat) : Int)] ⟨0, .nil⟩ truthC = true := by decide +kernel
theorem lowerLimits_81_0 : callC Tryz.prog envK10 10000 1000 5 [.int .i64 ((81 : Nat) : Int), .int .i64 ((0 : Nat) : Int)] ⟨0, .nil⟩ truthC = true := by decide +kernel
theorem lowerLimits_81_1 : callC Tryz.prog envK10 10000 1000 5 [.int .i64 ((81 : Nat) : Int), .int .i64 ((1 : Nat) : Int)] ⟨0, .nil⟩ truthC = true := by decide +kernel
theorem lowerLimits_81_2 : callC Tryz.prog envK10 10000 1000 5 [.int .i64 ((81 : Nat) : Int), .int .i64 ((2 : Nat) : Int)] ⟨0, .nil⟩ truthC = true := by decide +kernel
theorem lowerLimits_81_3 : callC Tryz.prog envK10 10000 1000 5 [.int .i64 ((81 : Nat) : Int), .int .i64 ((3 : Nat) : Int)] ⟨0, .nil⟩ truthC = true := by decide +kernel
theorem lowerLimits_81_4 : callC Tryz.prog envK10 10000 1000 5 [.int .i64 ((81 : Nat) : Int), .int .i64 ((4 : Nat) : Int)] ⟨0, .nil⟩ truthC = true := by decide +kernel
theorem lowerLimits_81_5 : callC Tryz.prog envK10 10000 1000 5 [.int .i64 ((81 : Nat) : Int), .int .i64 ((5 : Nat) : Int)] ⟨0, .nil⟩ truthC = true := by decide +kernel
theorem lowerLimits_81_6 : callC Tryz.prog envK10 10000 1000 5 [.int .i64 ((81 : Nat) : Int), .int .i64 ((6 : Nat) : Int)] ⟨0, .nil⟩ truthC = true := by decide +kernel
theorem lowerLimits_81_7 : callC Tryz.prog envK10 10000 1000 5 [.int .i64 ((81 : Nat) : Int), .int .i64 ((7 : Nat) : Int)] ⟨0, .nil⟩ truthC = true := by decide +kernel
theorem lowerLimits_81_8 : callC Tryz.prog envK10 10000 1000 5 [.int .i64 ((81 : Nat) : Int), .int .i64 ((8 : Nat) : Int)] ⟨0, .nil⟩ truthC = true := by decide +kernel
theorem lowerLimits_82_0 : callC Tryz.prog envK10 10000 1000 5 [.int .i64 ((82 : Nat) : Int), .int .i64 ((0 : Nat) : Int)] ⟨0, .nil⟩ truthC = true := by decide +kernel
theorem lowerLimits_82_1 : callC Tryz.prog envK10 10000 1000 5 [.int .i64 ((82 : Nat) : Int), .int .i64 ((1 : Nat) : Int)] ⟨0, .nil⟩ truthC = true := by decide +kernel
theorem lowerLimits_82_2 : callC Tryz.prog envK10 10000 1000 5 [.int .i64 ((82 : Nat) : Int), .int .i64 ((2 : Nat) : Int)] ⟨0, .nil⟩ truthC = true := by decide +kernel
theorem lowerLimits_82_3 : callC Tryz.prog envK10 10000 1000 5 [.int .i64 ((82 : Nat) : Int), .int .i64 ((3 : Nat) : Int)] ⟨0, .nil⟩ truthC = true := by decide +kernel
theorem lowerLimits_82_4 : callC Tryz.prog envK10 10000 1000 5 [.int .i64 ((82 : Nat) : Int), .int .i64 ((4 : Nat) : Int)] ⟨0, .nil⟩ truthC = true := by decide +kernel
theorem lowerLimits_82_5 : callC Tryz.prog envK10 10000 1000 5 [.int .i64 ((82 : Nat) : Int), .int .i64 ((5 : Nat) : Int)] ⟨0, .nil⟩ truthC = true := by decide +kernel
theorem lowerLimits_82_6 : callC Tryz.prog envK10 10000 1000 5 [.int .i64 ((82 : Nat) : Int), .int .i64 ((6 : Nat) : Int)] ⟨0, .nil⟩ truthC = true := by decide +kernel
theorem lowerLimits_82_7 : callC Tryz.prog envK10 10000 1000 5 [.int .i64 ((82 : Nat) : Int), .int .i64 ((7 : Nat) : Int)] ⟨0, .nil⟩ truthC = true := by decide +kernel
theorem lowerLimits_82_8 : callC Tryz.prog envK10 10000 1000 5 [.int .i64 ((82 : Nat) : Int), .int .i64 ((8 : Nat) : Int)] ⟨0, .nil⟩ truthC = true := by decide +kernel
theorem lowerLimits_83_0 : callC Tryz.prog envK10 10000 1000 5 [.int .i64 ((83 : Nat) : Int), .int .i64 ((0 : Nat) : Int)] ⟨0, .nil⟩ truthC = true := by decide +kernel
theorem lowerLimits_83_1 : callC Tryz.prog envK10 10000 1000 5 [.int .i64 ((83 : Nat) : Int), .int .i64 ((1 : Nat) : Int)] ⟨0, .nil⟩ truthC = true := by decide +kernel
theorem lowerLimits_83_2 : callC Tryz.prog envK10 10000 1000 5 [.int .i64 ((83 : Nat) : Int), .int .i64 ((2 : Nat) : Int)] ⟨0, .nil⟩ truthC = true := by decide +kernel
theorem lowerLimits_83_3 : callC Tryz.prog envK10 10000 1000 5 [.int .i64 ((83 : Nat) : Int), .int .i64 ((3 : Nat) : Int)] ⟨0, .nil⟩ truthC = true := by decide +kernel
theorem lowerLimits_83_4 : callC Tryz.prog envK10 10000 1000 5 [.int .i64 ((83 : Nat) : Int), .int .i64 ((4 : Nat) : Int)] ⟨0, .nil⟩ truthC = true := by decide +kernel
theorem lowerLimits_83_5 : callC Tryz.prog envK10 10000 1000 5 [.int .i64 ((83 : Nat) : Int), .int .i64 ((5 : Nat) : Int)] ⟨0, .nil⟩ truthC = true := by decide +kernel
theorem lowerLimits_83_6 : callC Tryz.prog envK10 10000 1000 5 [.int .i64 ((83 : Nat) : Int), .int .i64 ((6 : Nat) : Int)] ⟨0, .nil⟩ truthC = true := by decide +kernel
theorem lowerLimits_83_7 : callC Tryz.prog envK10 10000 1000 5 [.int .i64 ((83 : Nat) : Int), .int .i64 ((7 : Nat) : Int)] ⟨0, .nil⟩ truthC = true := by decide +kernel
theorem lowerLimits_83_8 : callC Tryz.prog envK10 10000 1000 5 [.int .i64 ((83 : Nat) : Int), .int .i64 ((8 : Nat) : Int)] ⟨0, .nil⟩ truthC = true := by decide +kernel
theorem lowerLimits_84_0 : callC Tryz.prog envK10 10000 1000 5 [.int .i64 ((84 : Nat) : Int), .int .i64 ((0 : Nat) : Int)] ⟨0, .nil⟩ truthC = true := by decide +kernel
theorem lowerLimits_84_1 : callC Tryz.prog envK10 10000 1000 5 [.int .i64 ((84 : Nat) : Int), .int .i64 ((1 : Nat) : Int)] ⟨0, .nil⟩ truthC = true := by decide +kernel
theorem lowerLimits_84_2 : callC Tryz.prog envK10 10000 1000 5 [.int .i64 ((84 : Nat) : Int), .int .i64 ((2 : Nat) : Int)] ⟨0, .nil⟩ truthC = true := by decide +kernel
theorem lowerLimits_84_3 : callC Tryz.prog envK10 10000 1000 5 [.int .i64 ((84 : Nat) : Int), .int .i64 ((3 : Nat) : Int)] ⟨0, .nil⟩ truthC = true := by decide +kernel
theorem lowerLimits_84_4 : callC Tryz.prog envK10 10000 1000 5 [.int .i64 ((84 : Nat) : Int), .int .i64 ((4 : Nat) : Int)] ⟨0, .nil⟩ truthC = true := by decide +kernel
theorem lowerLimits_84_5 : callC Tryz.prog envK10 10000 1000 5 [.int .i64 ((84 : Nat) : Int), .int .i64 ((5 : Nat) : Int)] ⟨0, .nil⟩ truthC = true := by decide +kernel
theorem lowerLimits_84_6 : callC Tryz.prog envK10 10000 1000 5 [.int .i64 ((84 : Nat) : Int), .int .i64 ((6 : Nat) : Int)] ⟨0, .nil⟩ truthC = true := by decide +kernel
theorem lowerLimits_84_7 : callC Tryz.prog envK10 10000 1000 5 [.int .i64 ((84 : Nat) : Int), .int .i64 ((7 : Nat) : Int)] ⟨0, .nil⟩ truthC = true := by decide +kernel
theorem lowerLimits_84_8 : callC Tryz.prog envK10 10000 1000 5 [.int .i64 ((84 : Nat) : Int), .int .i64 ((8 : Nat) : Int)] ⟨0, .nil⟩ truthC = true := by decide +kernel

end Go.Proofs.YtaoglicedcgnoaaGreatDoor
