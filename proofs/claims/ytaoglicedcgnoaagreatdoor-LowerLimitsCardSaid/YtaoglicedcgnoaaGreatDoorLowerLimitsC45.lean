/-
  'LowerLimits', reckoned: first parameter 45 to 49.
-/
import Derived.Test.YtaoglicedcgnoaaGreatDoorKnown10
namespace Go.Proofs.YtaoglicedcgnoaaGreatDoor
open Go
set_option maxRecDepth 1000000

theorem lowerLimits_45_0 : callC Tryz.prog envK10 10000 1000 5 [.int .i64 ((45 : Nat) : Int), .int .i64 ((0 : Nat) : Int)] ⟨0, .nil⟩ truthC = true := by decide +kernel
theorem lowerLimits_45_1 : callC Tryz.prog envK10 10000 1000 5 [.int .i64 ((45 : Nat) : Int), .int .i64 ((1 : Nat) : Int)] ⟨0, .nil⟩ truthC = true := by decide +kernel
theorem lowerLimits_45_2 : callC Tryz.prog envK10 10000 1000 5 [.int .i64 ((45 : Nat) : Int), .int .i64 ((2 : Nat) : Int)] ⟨0, .nil⟩ truthC = true := by decide +kernel
theorem lowerLimits_45_3 : callC Tryz.prog envK10 10000 1000 5 [.int .i64 ((45 : Nat) : Int), .int .i64 ((3 : Nat) : Int)] ⟨0, .nil⟩ truthC = true := by decide +kernel
theorem lowerLimits_45_4 : callC Tryz.prog envK10 10000 1000 5 [.int .i64 ((45 : Nat) : Int), .int .i64 ((4 : Nat) : Int)] ⟨0, .nil⟩ truthC = true := by decide +kernel
theorem lowerLimits_45_5 : callC Tryz.prog envK10 10000 1000 5 [.int .i64 ((45 : Nat) : Int), .int .i64 ((5 : Nat) : Int)] ⟨0, .nil⟩ truthC = true := by decide +kernel
theorem lowerLimits_45_6 : callC Tryz.prog envK10 10000 1000 5 [.int .i64 ((45 : Nat) : Int), .int .i64 ((6 : Nat) : Int)] ⟨0, .nil⟩ truthC = true := by decide +kernel
theorem lowerLimits_45_7 : callC Tryz.prog envK10 10000 1000 5 [.int .i64 ((45 : Nat) : Int), .int .i64 ((7 : Nat) : Int)] ⟨0, .nil⟩ truthC = true := by decide +kernel
theorem lowerLimits_45_8 : callC Tryz.prog envK10 10000 1000 5 [.int .i64 ((45 : Nat) : Int), .int .i64 ((8 : Nat) : Int)] ⟨0, .nil⟩ truthC = true := by decide +kernel
theorem lowerLimits_46_0 : callC Tryz.prog envK10 10000 1000 5 [.int .i64 ((46 : Nat) : Int), .int .i64 ((0 : Nat) : Int)] ⟨0, .nil⟩ truthC = true := by decide +kernel
theorem lowerLimits_46_1 : callC Tryz.prog envK10 10000 1000 5 [.int .i64 ((46 : Nat) : Int), .int .i64 ((1 : Nat) : Int)] ⟨0, .nil⟩ truthC = true := by decide +kernel
theorem lowerLimits_46_2 : callC Tryz.prog envK10 10000 1000 5 [.int .i64 ((46 : Nat) : Int), .int .i64 ((2 : Nat) : Int)] ⟨0, .nil⟩ truthC = true := by decide +kernel
theorem lowerLimits_46_3 : callC Tryz.prog envK10 10000 1000 5 [.int .i64 ((46 : Nat) : Int), .int .i64 ((3 : Nat) : Int)] ⟨0, .nil⟩ truthC = true := by decide +kernel
theorem lowerLimits_46_4 : callC Tryz.prog envK10 10000 1000 5 [.int .i64 ((46 : Nat) : Int), .int .i64 ((4 : Nat) : Int)] ⟨0, .nil⟩ truthC = true := by decide +kernel
theorem lowerLimits_46_5 : callC Tryz.prog envK10 10000 1000 5 [.int .i64 ((46 : Nat) : Int), .int .i64 ((5 : Nat) : Int)] ⟨0, .nil⟩ truthC = true := by decide +kernel
theorem lowerLimits_46_6 : callC Tryz.prog envK10 10000 1000 5 [.int .i64 ((46 : Nat) : Int), .int .i64 ((6 : Nat) : Int)] ⟨0, .nil⟩ truthC = true := by decide +kernel
theorem lowerLimits_46_7 : callC Tryz.prog envK10 10000 1000 5 [.int .i64 ((46 : Nat) : Int), .int .i64 ((7 : Nat) : Int)] ⟨0, .nil⟩ truthC = true := by decide +kernel
theorem lowerLimits_46_8 : callC Tryz.prog envK10 10000 1000 5 [.int .i64 ((46 : Nat) : Int), .int .i64 ((8 : Nat) : Int)] ⟨0, .nil⟩ truthC = true := by decide +kernel
theorem lowerLimits_47_0 : callC Tryz.prog envK10 10000 1000 5 [.int .i64 ((47 : Nat) : Int), .int .i64 ((0 : Nat) : Int)] ⟨0, .nil⟩ truthC = true := by decide +kernel
theorem lowerLimits_47_1 : callC Tryz.prog envK10 10000 1000 5 [.int .i64 ((47 : Nat) : Int), .int .i64 ((1 : Nat) : Int)] ⟨0, .nil⟩ truthC = true := by decide +kernel
theorem lowerLimits_47_2 : callC Tryz.prog envK10 10000 1000 5 [.int .i64 ((47 : Nat) : Int), .int .i64 ((2 : Nat) : Int)] ⟨0, .nil⟩ truthC = true := by decide +kernel
theorem lowerLimits_47_3 : callC Tryz.prog envK10 10000 1000 5 [.int .i64 ((47 : Nat) : Int), .int .i64 ((3 : Nat) : Int)] ⟨0, .nil⟩ truthC = true := by decide +kernel
theorem lowerLimits_47_4 : callC Tryz.prog envK10 10000 1000 5 [.int .i64 ((47 : Nat) : Int), .int .i64 ((4 : Nat) : Int)] ⟨0, .nil⟩ truthC = true := by decide +kernel
theorem lowerLimits_47_5 : callC Tryz.prog envK10 10000 1000 5 [.int .i64 ((47 : Nat) : Int), .int .i64 ((5 : Nat) : Int)] ⟨0, .nil⟩ truthC = true := by decide +kernel
theorem lowerLimits_47_6 : callC Tryz.prog envK10 10000 1000 5 [.int .i64 ((47 : Nat) : Int), .int .i64 ((6 : Nat) : Int)] ⟨0, .nil⟩ truthC = true := by decide +kernel
theorem lowerLimits_47_7 : callC Tryz.prog envK10 10000 1000 5 [.int .i64 ((47 : Nat) : Int), .int .i64 ((7 : Nat) : Int)] ⟨0, .nil⟩ truthC = true := by decide +kernel
theorem lowerLimits_47_8 : callC Tryz.prog envK10 10000 1000 5 [.int .i64 ((47 : Nat) : Int), .int .i64 ((8 : Nat) : Int)] ⟨0, .nil⟩ truthC = true := by decide +kernel
theorem lowerLimits_48_0 : callC Tryz.prog envK10 10000 1000 5 [.int .i64 ((48 : Nat) : Int), .int .i64 ((0 : Nat) : Int)] ⟨0, .nil⟩ truthC = true := by decide +kernel
theorem lowerLimits_48_1 : callC Tryz.prog envK10 10000 1000 5 [.int .i64 ((48 : Nat) : Int), .int .i64 ((1 : Nat) : Int)] ⟨0, .nil⟩ truthC = true := by decide +kernel
theorem lowerLimits_48_2 : callC Tryz.prog envK10 10000 1000 5 [.int .i64 ((48 : Nat) : Int), .int .i64 ((2 : Nat) : Int)] ⟨0, .nil⟩ truthC = true := by decide +kernel
theorem lowerLimits_48_3 : callC Tryz.prog envK10 10000 1000 5 [.int .i64 ((48 : Nat) : Int), .int .i64 ((3 : Nat) : Int)] ⟨0, .nil⟩ truthC = true := by decide +kernel
theorem lowerLimits_48_4 : callC Tryz.prog envK10 10000 1000 5 [.int .i64 ((48 : Nat) : Int), .int .i64 ((4 : Nat) : Int)] ⟨0, .nil⟩ truthC = true := by decide +kernel
theorem lowerLimits_48_5 : callC Tryz.prog envK10 10000 1000 5 [.int .i64 ((48 : Nat) : Int), .int .i64 ((5 : Nat) : Int)] ⟨0, .nil⟩ truthC = true := by decide +kernel
theorem lowerLimits_48_6 : callC Tryz.prog envK10 10000 1000 5 [.int .i64 ((48 : Nat) : Int), .int .i64 ((6 : Nat) : Int)] ⟨0, .nil⟩ truthC = true := by decide +kernel
theorem lowerLimits_48_7 : callC Tryz.prog envK10 10000 1000 5 [.int .i64 ((48 : Nat) : Int), .int .i64 ((7 : Nat) : Int)] ⟨0, .nil⟩ truthC = true := by decide +kernel
theorem lowerLimits_48_8 : callC Tryz.prog envK10 10000 1000 5 [.int .i64 ((48 : Nat) : Int), .int .i64 ((8 : Nat) : Int)] ⟨0, .nil⟩ truthC = true := by decide +kernel
theorem lowerLimits_49_0 : callC Tryz.prog envK10 10000 1000 5 [.int .i64 ((49 : Nat) : Int), .int .i64 ((0 : Nat) : Int)] ⟨0, .nil⟩ truthC = true := by decide +kernel
theorem lowerLimits_49_1 : callC Tryz.prog envK10 10000 1000 5 [.int .i64 ((49 : Nat) : Int), .int .i64 ((1 : Nat) : Int)] ⟨0, .nil⟩ truthC = true := by decide +kernel
theorem lowerLimits_49_2 : callC Tryz.prog envK10 10000 1000 5 [.int .i64 ((49 : Nat) : Int), .int .i64 ((2 : Nat) : Int)] ⟨0, .nil⟩ truthC = true := by decide +kernel
theorem lowerLimits_49_3 : callC Tryz.prog envK10 10000 1000 5 [.int .i64 ((49 : Nat) : Int), .int .i64 ((3 : Nat) : Int)] ⟨0, .nil⟩ truthC = true := by decide +kernel
theorem lowerLimits_49_4 : callC Tryz.prog envK10 10000 1000 5 [.int .i64 ((49 : Nat) : Int), .int .i64 ((4 : Nat) : Int)] ⟨0, .nil⟩ truthC = true := by decide +kernel
theorem lowerLimits_49_5 : callC Tryz.prog envK10 10000 1000 5 [.int .i64 ((49 : Nat) : Int), .int .i64 ((5 : Nat) : Int)] ⟨0, .nil⟩ truthC = true := by decide +kernel
theorem lowerLimits_49_6 : callC Tryz.prog envK10 10000 1000 5 [.int .i64 ((49 : Nat) : Int), .int .i64 ((6 : Nat) : Int)] ⟨0, .nil⟩ truthC = true := by decide +kernel
theorem lowerLimits_49_7 : callC Tryz.prog envK10 10000 1000 5 [.int .i64 ((49 : Nat) : Int), .int .i64 ((7 : Nat) : Int)] ⟨0, .nil⟩ truthC = true := by decide +kernel
theorem lowerLimits_49_8 : callC Tryz.prog envK10 10000 1000 5 [.int .i64 ((49 : Nat) : Int), .int .i64 ((8 : Nat) : Int)] ⟨0, .nil⟩ truthC = true := by decide +kernel

end Go.Proofs.YtaoglicedcgnoaaGreatDoor
