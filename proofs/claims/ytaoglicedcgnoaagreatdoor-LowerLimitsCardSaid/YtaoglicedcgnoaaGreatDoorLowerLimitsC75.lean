/-
  'LowerLimits', reckoned: first parameter 75 to 79.
-/
import Derived.Test.YtaoglicedcgnoaaGreatDoorKnown10
namespace Go.Proofs.YtaoglicedcgnoaaGreatDoor
open Go
set_option maxRecDepth 1000000

theorem lowerLimits_75_0 : callC Tryz.prog envK10 10000 1000 5 [.int .i64 ((75 : Nat) : Int), .int .i64 ((0 : Nat) : Int)] ⟨0, .nil⟩ truthC = true := by decide +kernel
theorem lowerLimits_75_1 : callC Tryz.prog envK10 10000 1000 5 [.int .i64 ((75 : Nat) : Int), .int .i64 ((1 : Nat) : Int)] ⟨0, .nil⟩ truthC = true := by decide +kernel
theorem lowerLimits_75_2 : callC Tryz.prog envK10 10000 1000 5 [.int .i64 ((75 : Nat) : Int), .int .i64 ((2 : Nat) : Int)] ⟨0, .nil⟩ truthC = true := by decide +kernel
theorem lowerLimits_75_3 : callC Tryz.prog envK10 10000 1000 5 [.int .i64 ((75 : Nat) : Int), .int .i64 ((3 : Nat) : Int)] ⟨0, .nil⟩ truthC = true := by decide +kernel
theorem lowerLimits_75_4 : callC Tryz.prog envK10 10000 1000 5 [.int .i64 ((75 : Nat) : Int), .int .i64 ((4 : Nat) : Int)] ⟨0, .nil⟩ truthC = true := by decide +kernel
theorem lowerLimits_75_5 : callC Tryz.prog envK10 10000 1000 5 [.int .i64 ((75 : Nat) : Int), .int .i64 ((5 : Nat) : Int)] ⟨0, .nil⟩ truthC = true := by decide +kernel
theorem lowerLimits_75_6 : callC Tryz.prog envK10 10000 1000 5 [.int .i64 ((75 : Nat) : Int), .int .i64 ((6 : Nat) : Int)] ⟨0, .nil⟩ truthC = true := by decide +kernel
theorem lowerLimits_75_7 : callC Tryz.prog envK10 10000 1000 5 [.int .i64 ((75 : Nat) : Int), .int .i64 ((7 : Nat) : Int)] ⟨0, .nil⟩ truthC = true := by decide +kernel
theorem lowerLimits_75_8 : callC Tryz.prog envK10 10000 1000 5 [.int .i64 ((75 : Nat) : Int), .int .i64 ((8 : Nat) : Int)] ⟨0, .nil⟩ truthC = true := by decide +kernel
theorem lowerLimits_76_0 : callC Tryz.prog envK10 10000 1000 5 [.int .i64 ((76 : Nat) : Int), .int .i64 ((0 : Nat) : Int)] ⟨0, .nil⟩ truthC = true := by decide +kernel
theorem lowerLimits_76_1 : callC Tryz.prog envK10 10000 1000 5 [.int .i64 ((76 : Nat) : Int), .int .i64 ((1 : Nat) : Int)] ⟨0, .nil⟩ truthC = true := by decide +kernel
theorem lowerLimits_76_2 : callC Tryz.prog envK10 10000 1000 5 [.int .i64 ((76 : Nat) : Int), .int .i64 ((2 : Nat) : Int)] ⟨0, .nil⟩ truthC = true := by decide +kernel
theorem lowerLimits_76_3 : callC Tryz.prog envK10 10000 1000 5 [.int .i64 ((76 : Nat) : Int), .int .i64 ((3 : Nat) : Int)] ⟨0, .nil⟩ truthC = true := by decide +kernel
theorem lowerLimits_76_4 : callC Tryz.prog envK10 10000 1000 5 [.int .i64 ((76 : Nat) : Int), .int .i64 ((4 : Nat) : Int)] ⟨0, .nil⟩ truthC = true := by decide +kernel
theorem lowerLimits_76_5 : callC Tryz.prog envK10 10000 1000 5 [.int .i64 ((76 : Nat) : Int), .int .i64 ((5 : Nat) : Int)] ⟨0, .nil⟩ truthC = true := by decide +kernel
theorem lowerLimits_76_6 : callC Tryz.prog envK10 10000 1000 5 [.int .i64 ((76 : Nat) : Int), .int .i64 ((6 : Nat) : Int)] ⟨0, .nil⟩ truthC = true := by decide +kernel
theorem lowerLimits_76_7 : callC Tryz.prog envK10 10000 1000 5 [.int .i64 ((76 : Nat) : Int), .int .i64 ((7 : Nat) : Int)] ⟨0, .nil⟩ truthC = true := by decide +kernel
theorem lowerLimits_76_8 : callC Tryz.prog envK10 10000 1000 5 [.int .i64 ((76 : Nat) : Int), .int .i64 ((8 : Nat) : Int)] ⟨0, .nil⟩ truthC = true := by decide +kernel
theorem lowerLimits_77_0 : callC Tryz.prog envK10 10000 1000 5 [.int .i64 ((77 : Nat) : Int), .int .i64 ((0 : Nat) : Int)] ⟨0, .nil⟩ truthC = true := by decide +kernel
theorem lowerLimits_77_1 : callC Tryz.prog envK10 10000 1000 5 [.int .i64 ((77 : Nat) : Int), .int .i64 ((1 : Nat) : Int)] ⟨0, .nil⟩ truthC = true := by decide +kernel
theorem lowerLimits_77_2 : callC Tryz.prog envK10 10000 1000 5 [.int .i64 ((77 : Nat) : Int), .int .i64 ((2 : Nat) : Int)] ⟨0, .nil⟩ truthC = true := by decide +kernel
theorem lowerLimits_77_3 : callC Tryz.prog envK10 10000 1000 5 [.int .i64 ((77 : Nat) : Int), .int .i64 ((3 : Nat) : Int)] ⟨0, .nil⟩ truthC = true := by decide +kernel
theorem lowerLimits_77_4 : callC Tryz.prog envK10 10000 1000 5 [.int .i64 ((77 : Nat) : Int), .int .i64 ((4 : Nat) : Int)] ⟨0, .nil⟩ truthC = true := by decide +kernel
theorem lowerLimits_77_5 : callC Tryz.prog envK10 10000 1000 5 [.int .i64 ((77 : Nat) : Int), .int .i64 ((5 : Nat) : Int)] ⟨0, .nil⟩ truthC = true := by decide +kernel
theorem lowerLimits_77_6 : callC Tryz.prog envK10 10000 1000 5 [.int .i64 ((77 : Nat) : Int), .int .i64 ((6 : Nat) : Int)] ⟨0, .nil⟩ truthC = true := by decide +kernel
theorem lowerLimits_77_7 : callC Tryz.prog envK10 10000 1000 5 [.int .i64 ((77 : Nat) : Int), .int .i64 ((7 : Nat) : Int)] ⟨0, .nil⟩ truthC = true := by decide +kernel
theorem lowerLimits_77_8 : callC Tryz.prog envK10 10000 1000 5 [.int .i64 ((77 : Nat) : Int), .int .i64 ((8 : Nat) : Int)] ⟨0, .nil⟩ truthC = true := by decide +kernel
theorem lowerLimits_78_0 : callC Tryz.prog envK10 10000 1000 5 [.int .i64 ((78 : Nat) : Int), .int .i64 ((0 : Nat) : Int)] ⟨0, .nil⟩ truthC = true := by decide +kernel
theorem lowerLimits_78_1 : callC Tryz.prog envK10 10000 1000 5 [.int .i64 ((78 : Nat) : Int), .int .i64 ((1 : Nat) : Int)] ⟨0, .nil⟩ truthC = true := by decide +kernel
theorem lowerLimits_78_2 : callC Tryz.prog envK10 10000 1000 5 [.int .i64 ((78 : Nat) : Int), .int .i64 ((2 : Nat) : Int)] ⟨0, .nil⟩ truthC = true := by decide +kernel
theorem lowerLimits_78_3 : callC Tryz.prog envK10 10000 1000 5 [.int .i64 ((78 : Nat) : Int), .int .i64 ((3 : Nat) : Int)] ⟨0, .nil⟩ truthC = true := by decide +kernel
theorem lowerLimits_78_4 : callC Tryz.prog envK10 10000 1000 5 [.int .i64 ((78 : Nat) : Int), .int .i64 ((4 : Nat) : Int)] ⟨0, .nil⟩ truthC = true := by decide +kernel
theorem lowerLimits_78_5 : callC Tryz.prog envK10 10000 1000 5 [.int .i64 ((78 : Nat) : Int), .int .i64 ((5 : Nat) : Int)] ⟨0, .nil⟩ truthC = true := by decide +kernel
theorem lowerLimits_78_6 : callC Tryz.prog envK10 10000 1000 5 [.int .i64 ((78 : Nat) : Int), .int .i64 ((6 : Nat) : Int)] ⟨0, .nil⟩ truthC = true := by decide +kernel
theorem lowerLimits_78_7 : callC Tryz.prog envK10 10000 1000 5 [.int .i64 ((78 : Nat) : Int), .int .i64 ((7 : Nat) : Int)] ⟨0, .nil⟩ truthC = true := by decide +kernel
theorem lowerLimits_78_8 : callC Tryz.prog envK10 10000 1000 5 [.int .i64 ((78 : Nat) : Int), .int .i64 ((8 : Nat) : Int)] ⟨0, .nil⟩ truthC = true := by decide +kernel
theorem lowerLimits_79_0 : callC Tryz.prog envK10 10000 1000 5 [.int .i64 ((79 : Nat) : Int), .int .i64 ((0 : Nat) : Int)] ⟨0, .nil⟩ truthC = true := by decide +kernel
theorem lowerLimits_79_1 : callC Tryz.prog envK10 10000 1000 5 [.int .i64 ((79 : Nat) : Int), .int .i64 ((1 : Nat) : Int)] ⟨0, .nil⟩ truthC = true := by decide +kernel
theorem lowerLimits_79_2 : callC Tryz.prog envK10 10000 1000 5 [.int .i64 ((79 : Nat) : Int), .int .i64 ((2 : Nat) : Int)] ⟨0, .nil⟩ truthC = true := by decide +kernel
theorem lowerLimits_79_3 : callC Tryz.prog envK10 10000 1000 5 [.int .i64 ((79 : Nat) : Int), .int .i64 ((3 : Nat) : Int)] ⟨0, .nil⟩ truthC = true := by decide +kernel
theorem lowerLimits_79_4 : callC Tryz.prog envK10 10000 1000 5 [.int .i64 ((79 : Nat) : Int), .int .i64 ((4 : Nat) : Int)] ⟨0, .nil⟩ truthC = true := by decide +kernel
theorem lowerLimits_79_5 : callC Tryz.prog envK10 10000 1000 5 [.int .i64 ((79 : Nat) : Int), .int .i64 ((5 : Nat) : Int)] ⟨0, .nil⟩ truthC = true := by decide +kernel
theorem lowerLimits_79_6 : callC Tryz.prog envK10 10000 1000 5 [.int .i64 ((79 : Nat) : Int), .int .i64 ((6 : Nat) : Int)] ⟨0, .nil⟩ truthC = true := by decide +kernel
theorem lowerLimits_79_7 : callC Tryz.prog envK10 10000 1000 5 [.int .i64 ((79 : Nat) : Int), .int .i64 ((7 : Nat) : Int)] ⟨0, .nil⟩ truthC = true := by decide +kernel
theorem lowerLimits_79_8 : callC Tryz.prog envK10 10000 1000 5 [.int .i64 ((79 : Nat) : Int), .int .i64 ((8 : Nat) : Int)] ⟨0, .nil⟩ truthC = true := by decide +kernel

end Go.Proofs.YtaoglicedcgnoaaGreatDoor
