/-
  'LowerLimits', reckoned: first parameter 65 to 69.
-/
import Derived.Test.YtaoglicedcgnoaaGreatDoorKnown10
namespace Go.Proofs.YtaoglicedcgnoaaGreatDoor
open Go
set_option maxRecDepth 1000000

theorem lowerLimits_65_0 : callC Tryz.prog envK10 10000 1000 5 [.int .i64 ((65 : Nat) : Int), .int .i64 ((0 : Nat) : Int)] ⟨0, .nil⟩ truthC = true := by decide +kernel
theorem lowerLimits_65_1 : callC Tryz.prog envK10 10000 1000 5 [.int .i64 ((65 : Nat) : Int), .int .i64 ((1 : Nat) : Int)] ⟨0, .nil⟩ truthC = true := by decide +kernel
theorem lowerLimits_65_2 : callC Tryz.prog envK10 10000 1000 5 [.int .i64 ((65 : Nat) : Int), .int .i64 ((2 : Nat) : Int)] ⟨0, .nil⟩ truthC = true := by decide +kernel
theorem lowerLimits_65_3 : callC Tryz.prog envK10 10000 1000 5 [.int .i64 ((65 : Nat) : Int), .int .i64 ((3 : Nat) : Int)] ⟨0, .nil⟩ truthC = true := by decide +kernel
theorem lowerLimits_65_4 : callC Tryz.prog envK10 10000 1000 5 [.int .i64 ((65 : Nat) : Int), .int .i64 ((4 : Nat) : Int)] ⟨0, .nil⟩ truthC = true := by decide +kernel
theorem lowerLimits_65_5 : callC Tryz.prog envK10 10000 1000 5 [.int .i64 ((65 : Nat) : Int), .int .i64 ((5 : Nat) : Int)] ⟨0, .nil⟩ truthC = true := by decide +kernel
theorem lowerLimits_65_6 : callC Tryz.prog envK10 10000 1000 5 [.int .i64 ((65 : Nat) : Int), .int .i64 ((6 : Nat) : Int)] ⟨0, .nil⟩ truthC = true := by decide +kernel
theorem lowerLimits_65_7 : callC Tryz.prog envK10 10000 1000 5 [.int .i64 ((65 : Nat) : Int), .int .i64 ((7 : Nat) : Int)] ⟨0, .nil⟩ truthC = true := by decide +kernel
theorem lowerLimits_65_8 : callC Tryz.prog envK10 10000 1000 5 [.int .i64 ((65 : Nat) : Int), .int .i64 ((8 : Nat) : Int)] ⟨0, .nil⟩ truthC = true := by decide +kernel
theorem lowerLimits_66_0 : callC Tryz.prog envK10 10000 1000 5 [.int .i64 ((66 : Nat) : Int), .int .i64 ((0 : Nat) : Int)] ⟨0, .nil⟩ truthC = true := by decide +kernel
theorem lowerLimits_66_1 : callC Tryz.prog envK10 10000 1000 5 [.int .i64 ((66 : Nat) : Int), .int .i64 ((1 : Nat) : Int)] ⟨0, .nil⟩ truthC = true := by decide +kernel
theorem lowerLimits_66_2 : callC Tryz.prog envK10 10000 1000 5 [.int .i64 ((66 : Nat) : Int), .int .i64 ((2 : Nat) : Int)] ⟨0, .nil⟩ truthC = true := by decide +kernel
theorem lowerLimits_66_3 : callC Tryz.prog envK10 10000 1000 5 [.int .i64 ((66 : Nat) : Int), .int .i64 ((3 : Nat) : Int)] ⟨0, .nil⟩ truthC = true := by decide +kernel
theorem lowerLimits_66_4 : callC Tryz.prog envK10 10000 1000 5 [.int .i64 ((66 : Nat) : Int), .int .i64 ((4 : Nat) : Int)] ⟨0, .nil⟩ truthC = true := by decide +kernel
theorem lowerLimits_66_5 : callC Tryz.prog envK10 10000 1000 5 [.int .i64 ((66 : Nat) : Int), .int .i64 ((5 : Nat) : Int)] ⟨0, .nil⟩ truthC = true := by decide +kernel
theorem lowerLimits_66_6 : callC Tryz.prog envK10 10000 1000 5 [.int .i64 ((66 : Nat) : Int), .int .i64 ((6 : Nat) : Int)] ⟨0, .nil⟩ truthC = true := by decide +kernel
theorem lowerLimits_66_7 : callC Tryz.prog envK10 10000 1000 5 [.int .i64 ((66 : Nat) : Int), .int .i64 ((7 : Nat) : Int)] ⟨0, .nil⟩ truthC = true := by decide +kernel
theorem lowerLimits_66_8 : callC Tryz.prog envK10 10000 1000 5 [.int .i64 ((66 : Nat) : Int), .int .i64 ((8 : Nat) : Int)] ⟨0, .nil⟩ truthC = true := by decide +kernel
theorem lowerLimits_67_0 : callC Tryz.prog envK10 10000 1000 5 [.int .i64 ((67 : Nat) : Int), .int .i64 ((0 : Nat) : Int)] ⟨0, .nil⟩ truthC = true := by decide +kernel
theorem lowerLimits_67_1 : callC Tryz.prog envK10 10000 1000 5 [.int .i64 ((67 : Nat) : Int), .int .i64 ((1 : Nat) : Int)] ⟨0, .nil⟩ truthC = true := by decide +kernel
theorem lowerLimits_67_2 : callC Tryz.prog envK10 10000 1000 5 [.int .i64 ((67 : Nat) : Int), .int .i64 ((2 : Nat) : Int)] ⟨0, .nil⟩ truthC = true := by decide +kernel
theorem lowerLimits_67_3 : callC Tryz.prog envK10 10000 1000 5 [.int .i64 ((67 : Nat) : Int), .int .i64 ((3 : Nat) : Int)] ⟨0, .nil⟩ truthC = true := by decide +kernel
theorem lowerLimits_67_4 : callC Tryz.prog envK10 10000 1000 5 [.int .i64 ((67 : Nat) : Int), .int .i64 ((4 : Nat) : Int)] ⟨0, .nil⟩ truthC = true := by decide +kernel
theorem lowerLimits_67_5 : callC Tryz.prog envK10 10000 1000 5 [.int .i64 ((67 : Nat) : Int), .int .i64 ((5 : Nat) : Int)] ⟨0, .nil⟩ truthC = true := by decide +kernel
theorem lowerLimits_67_6 : callC Tryz.prog envK10 10000 1000 5 [.int .i64 ((67 : Nat) : Int), .int .i64 ((6 : Nat) : Int)] ⟨0, .nil⟩ truthC = true := by decide +kernel
theorem lowerLimits_67_7 : callC Tryz.prog envK10 10000 1000 5 [.int .i64 ((67 : Nat) : Int), .int .i64 ((7 : Nat) : Int)] ⟨0, .nil⟩ truthC = true := by decide +kernel
theorem lowerLimits_67_8 : callC Tryz.prog envK10 10000 1000 5 [.int .i64 ((67 : Nat) : Int), .int .i64 ((8 : Nat) : Int)] ⟨0, .nil⟩ truthC = true := by decide +kernel
theorem lowerLimits_68_0 : callC Tryz.prog envK10 10000 1000 5 [.int .i64 ((68 : Nat) : Int), .int .i64 ((0 : Nat) : Int)] ⟨0, .nil⟩ truthC = true := by decide +kernel
theorem lowerLimits_68_1 : callC Tryz.prog envK10 10000 1000 5 [.int .i64 ((68 : Nat) : Int), .int .i64 ((1 : Nat) : Int)] ⟨0, .nil⟩ truthC = true := by decide +kernel
theorem lowerLimits_68_2 : callC Tryz.prog envK10 10000 1000 5 [.int .i64 ((68 : Nat) : Int), .int .i64 ((2 : Nat) : Int)] ⟨0, .nil⟩ truthC = true := by decide +kernel
theorem lowerLimits_68_3 : callC Tryz.prog envK10 10000 1000 5 [.int .i64 ((68 : Nat) : Int), .int .i64 ((3 : Nat) : Int)] ⟨0, .nil⟩ truthC = true := by decide +kernel
theorem lowerLimits_68_4 : callC Tryz.prog envK10 10000 1000 5 [.int .i64 ((68 : Nat) : Int), .int .i64 ((4 : Nat) : Int)] ⟨0, .nil⟩ truthC = true := by decide +kernel
theorem lowerLimits_68_5 : callC Tryz.prog envK10 10000 1000 5 [.int .i64 ((68 : Nat) : Int), .int .i64 ((5 : Nat) : Int)] ⟨0, .nil⟩ truthC = true := by decide +kernel
theorem lowerLimits_68_6 : callC Tryz.prog envK10 10000 1000 5 [.int .i64 ((68 : Nat) : Int), .int .i64 ((6 : Nat) : Int)] ⟨0, .nil⟩ truthC = true := by decide +kernel
theorem lowerLimits_68_7 : callC Tryz.prog envK10 10000 1000 5 [.int .i64 ((68 : Nat) : Int), .int .i64 ((7 : Nat) : Int)] ⟨0, .nil⟩ truthC = true := by decide +kernel
theorem lowerLimits_68_8 : callC Tryz.prog envK10 10000 1000 5 [.int .i64 ((68 : Nat) : Int), .int .i64 ((8 : Nat) : Int)] ⟨0, .nil⟩ truthC = true := by decide +kernel
theorem lowerLimits_69_0 : callC Tryz.prog envK10 10000 1000 5 [.int .i64 ((69 : Nat) : Int), .int .i64 ((0 : Nat) : Int)] ⟨0, .nil⟩ truthC = true := by decide +kernel
theorem lowerLimits_69_1 : callC Tryz.prog envK10 10000 1000 5 [.int .i64 ((69 : Nat) : Int), .int .i64 ((1 : Nat) : Int)] ⟨0, .nil⟩ truthC = true := by decide +kernel
theorem lowerLimits_69_2 : callC Tryz.prog envK10 10000 1000 5 [.int .i64 ((69 : Nat) : Int), .int .i64 ((2 : Nat) : Int)] ⟨0, .nil⟩ truthC = true := by decide +kernel
theorem lowerLimits_69_3 : callC Tryz.prog envK10 10000 1000 5 [.int .i64 ((69 : Nat) : Int), .int .i64 ((3 : Nat) : Int)] ⟨0, .nil⟩ truthC = true := by decide +kernel
theorem lowerLimits_69_4 : callC Tryz.prog envK10 10000 1000 5 [.int .i64 ((69 : Nat) : Int), .int .i64 ((4 : Nat) : Int)] ⟨0, .nil⟩ truthC = true := by decide +kernel
theorem lowerLimits_69_5 : callC Tryz.prog envK10 10000 1000 5 [.int .i64 ((69 : Nat) : Int), .int .i64 ((5 : Nat) : Int)] ⟨0, .nil⟩ truthC = true := by decide +kernel
theorem lowerLimits_69_6 : callC Tryz.prog envK10 10000 1000 5 [.int .i64 ((69 : Nat) : Int), .int .i64 ((6 : Nat) : Int)] ⟨0, .nil⟩ truthC = true := by decide +kernel
theorem lowerLimits_69_7 : callC Tryz.prog envK10 10000 1000 5 [.int .i64 ((69 : Nat) : Int), .int .i64 ((7 : Nat) : Int)] ⟨0, .nil⟩ truthC = true := by decide +kernel
theorem lowerLimits_69_8 : callC Tryz.prog envK10 10000 1000 5 [.int .i64 ((69 : Nat) : Int), .int .i64 ((8 : Nat) : Int)] ⟨0, .nil⟩ truthC = true := by decide +kernel

end Go.Proofs.YtaoglicedcgnoaaGreatDoor
