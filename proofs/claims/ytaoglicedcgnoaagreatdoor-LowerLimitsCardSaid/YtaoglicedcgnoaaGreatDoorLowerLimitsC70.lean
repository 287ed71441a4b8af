/-
  'LowerLimits', reckoned: first parameter 70 to 74.
-/
import Derived.Test.YtaoglicedcgnoaaGreatDoorKnown10
namespace Go.Proofs.YtaoglicedcgnoaaGreatDoor
open Go
set_option maxRecDepth 1000000

theorem lowerLimits_70_0 : callC Tryz.prog envK10 10000 1000 5 [.int .i64 ((70 : Nat) : Int), .int .i64 ((0 : Nat) : Int)] ⟨0, .nil⟩ truthC = true := by decide +kernel
theorem lowerLimits_70_1 : callC Tryz.prog envK10 10000 1000 5 [.int .i64 ((70 : Nat) : Int), .int .i64 ((1 : Nat) : Int)] ⟨0, .nil⟩ truthC = true := by decide +kernel
theorem lowerLimits_70_2 : callC Tryz.prog envK10 10000 1000 5 [.int .i64 ((70 : Nat) : Int), .int .i64 ((2 : Nat) : Int)] ⟨0, .nil⟩ truthC = true := by decide +kernel
theorem lowerLimits_70_3 : callC Tryz.prog envK10 10000 1000 5 [.int .i64 ((70 : Nat) : Int), .int .i64 ((3 : Nat) : Int)] ⟨0, .nil⟩ truthC = true := by decide +kernel
theorem lowerLimits_70_4 : callC Tryz.prog envK10 10000 1000 5 [.int .i64 ((70 : Nat) : Int), .int .i64 ((4 : Nat) : Int)] ⟨0, .nil⟩ truthC = true := by decide +kernel
theorem lowerLimits_70_5 : callC Tryz.prog envK10 10000 1000 5 [.int .i64 ((70 : Nat) : Int), .int .i64 ((5 : Nat) : Int)] ⟨0, .nil⟩ truthC = true := by decide +kernel
theorem lowerLimits_70_6 : callC Tryz.prog envK10 10000 1000 5 [.int .i64 ((70 : Nat) : Int), .int .i64 ((6 : Nat) : Int)] ⟨0, .nil⟩ truthC = true := by decide +kernel
theorem lowerLimits_70_7 : callC Tryz.prog envK10 10000 1000 5 [.int .i64 ((70 : Nat) : Int), .int .i64 ((7 : Nat) : Int)] ⟨0, .nil⟩ truthC = true := by decide +kernel
theorem lowerLimits_70_8 : callC Tryz.prog envK10 10000 1000 5 [.int .i64 ((70 : Nat) : Int), .int .i64 ((8 : Nat) : Int)] ⟨0, .nil⟩ truthC = true := by decide +kernel
theorem lowerLimits_71_0 : callC Tryz.prog envK10 10000 1000 5 [.int .i64 ((71 : Nat) : Int), .int .i64 ((0 : Nat) : Int)] ⟨0, .nil⟩ truthC = true := by decide +kernel
theorem lowerLimits_71_1 : callC Tryz.prog envK10 10000 1000 5 [.int .i64 ((71 : Nat) : Int), .int .i64 ((1 : Nat) : Int)] ⟨0, .nil⟩ truthC = true := by decide +kernel
theorem lowerLimits_71_2 : callC Tryz.prog envK10 10000 1000 5 [.int .i64 ((71 : Nat) : Int), .int .i64 ((2 : Nat) : Int)] ⟨0, .nil⟩ truthC = true := by decide +kernel
theorem lowerLimits_71_3 : callC Tryz.prog envK10 10000 1000 5 [.int .i64 ((71 : Nat) : Int), .int .i64 ((3 : Nat) : Int)] ⟨0, .nil⟩ truthC = true := by decide +kernel
theorem lowerLimits_71_4 : callC Tryz.prog envK10 10000 1000 5 [.int .i64 ((71 : Nat) : Int), .int .i64 ((4 : Nat) : Int)] ⟨0, .nil⟩ truthC = true := by decide +kernel
theorem lowerLimits_71_5 : callC Tryz.prog envK10 10000 1000 5 [.int .i64 ((71 : Nat) : Int), .int .i64 ((5 : Nat) : Int)] ⟨0, .nil⟩ truthC = true := by decide +kernel
theorem lowerLimits_71_6 : callC Tryz.prog envK10 10000 1000 5 [.int .i64 ((71 : Nat) : Int), .int .i64 ((6 : Nat) : Int)] ⟨0, .nil⟩ truthC = true := by decide +kernel
theorem lowerLimits_71_7 : callC Tryz.prog envK10 10000 1000 5 [.int .i64 ((71 : Nat) : Int), .int .i64 ((7 : Nat) : Int)] ⟨0, .nil⟩ truthC = true := by decide +kernel
theorem lowerLimits_71_8 : callC Tryz.prog envK10 10000 1000 5 [.int .i64 ((71 : Nat) : Int), .int .i64 ((8 : Nat) : Int)] ⟨0, .nil⟩ truthC = true := by decide +kernel
theorem lowerLimits_72_0 : callC Tryz.prog envK10 10000 1000 5 [.int .i64 ((72 : Nat) : Int), .int .i64 ((0 : Nat) : Int)] ⟨0, .nil⟩ truthC = true := by decide +kernel
theorem lowerLimits_72_1 : callC Tryz.prog envK10 10000 1000 5 [.int .i64 ((72 : Nat) : Int), .int .i64 ((1 : Nat) : Int)] ⟨0, .nil⟩ truthC = true := by decide +kernel
theorem lowerLimits_72_2 : callC Tryz.prog envK10 10000 1000 5 [.int .i64 ((72 : Nat) : Int), .int .i64 ((2 : Nat) : Int)] ⟨0, .nil⟩ truthC = true := by decide +kernel
theorem lowerLimits_72_3 : callC Tryz.prog envK10 10000 1000 5 [.int .i64 ((72 : Nat) : Int), .int .i64 ((3 : Nat) : Int)] ⟨0, .nil⟩ truthC = true := by decide +kernel
theorem lowerLimits_72_4 : callC Tryz.prog envK10 10000 1000 5 [.int .i64 ((72 : Nat) : Int), .int .i64 ((4 : Nat) : Int)] ⟨0, .nil⟩ truthC = true := by decide +kernel
theorem lowerLimits_72_5 : callC Tryz.prog envK10 10000 1000 5 [.int .i64 ((72 : Nat) : Int), .int .i64 ((5 : Nat) : Int)] ⟨0, .nil⟩ truthC = true := by decide +kernel
theorem lowerLimits_72_6 : callC Tryz.prog envK10 10000 1000 5 [.int .i64 ((72 : Nat) : Int), .int .i64 ((6 : Nat) : Int)] ⟨0, .nil⟩ truthC = true := by decide +kernel
theorem lowerLimits_72_7 : callC Tryz.prog envK10 10000 1000 5 [.int .i64 ((72 : Nat) : Int), .int .i64 ((7 : Nat) : Int)] ⟨0, .nil⟩ truthC = true := by decide +kernel
theorem lowerLimits_72_8 : callC Tryz.prog envK10 10000 1000 5 [.int .i64 ((72 : Nat) : Int), .int .i64 ((8 : Nat) : Int)] ⟨0, .nil⟩ truthC = true := by decide +kernel
theorem lowerLimits_73_0 : callC Tryz.prog envK10 10000 1000 5 [.int .i64 ((73 : Nat) : Int), .int .i64 ((0 : Nat) : Int)] ⟨0, .nil⟩ truthC = true := by decide +kernel
theorem lowerLimits_73_1 : callC Tryz.prog envK10 10000 1000 5 [.int .i64 ((73 : Nat) : Int), .int .i64 ((1 : Nat) : Int)] ⟨0, .nil⟩ truthC = true := by decide +kernel
theorem lowerLimits_73_2 : callC Tryz.prog envK10 10000 1000 5 [.int .i64 ((73 : Nat) : Int), .int .i64 ((2 : Nat) : Int)] ⟨0, .nil⟩ truthC = true := by decide +kernel
theorem lowerLimits_73_3 : callC Tryz.prog envK10 10000 1000 5 [.int .i64 ((73 : Nat) : Int), .int .i64 ((3 : Nat) : Int)] ⟨0, .nil⟩ truthC = true := by decide +kernel
theorem lowerLimits_73_4 : callC Tryz.prog envK10 10000 1000 5 [.int .i64 ((73 : Nat) : Int), .int .i64 ((4 : Nat) : Int)] ⟨0, .nil⟩ truthC = true := by decide +kernel
theorem lowerLimits_73_5 : callC Tryz.prog envK10 10000 1000 5 [.int .i64 ((73 : Nat) : Int), .int .i64 ((5 : Nat) : Int)] ⟨0, .nil⟩ truthC = true := by decide +kernel
theorem lowerLimits_73_6 : callC Tryz.prog envK10 10000 1000 5 [.int .i64 ((73 : Nat) : Int), .int .i64 ((6 : Nat) : Int)] ⟨0, .nil⟩ truthC = true := by decide +kernel
theorem lowerLimits_73_7 : callC Tryz.prog envK10 10000 1000 5 [.int .i64 ((73 : Nat) : Int), .int .i64 ((7 : Nat) : Int)] ⟨0, .nil⟩ truthC = true := by decide +kernel
theorem lowerLimits_73_8 : callC Tryz.prog envK10 10000 1000 5 [.int .i64 ((73 : Nat) : Int), .int .i64 ((8 : Nat) : Int)] ⟨0, .nil⟩ truthC = true := by decide +kernel
theorem lowerLimits_74_0 : callC Tryz.prog envK10 10000 1000 5 [.int .i64 ((74 : Nat) : Int), .int .i64 ((0 : Nat) : Int)] ⟨0, .nil⟩ truthC = true := by decide +kernel
theorem lowerLimits_74_1 : callC Tryz.prog envK10 10000 1000 5 [.int .i64 ((74 : Nat) : Int), .int .i64 ((1 : Nat) : Int)] ⟨0, .nil⟩ truthC = true := by decide +kernel
theorem lowerLimits_74_2 : callC Tryz.prog envK10 10000 1000 5 [.int .i64 ((74 : Nat) : Int), .int .i64 ((2 : Nat) : Int)] ⟨0, .nil⟩ truthC = true := by decide +kernel
theorem lowerLimits_74_3 : callC Tryz.prog envK10 10000 1000 5 [.int .i64 ((74 : Nat) : Int), .int .i64 ((3 : Nat) : Int)] ⟨0, .nil⟩ truthC = true := by decide +kernel
theorem lowerLimits_74_4 : callC Tryz.prog envK10 10000 1000 5 [.int .i64 ((74 : Nat) : Int), .int .i64 ((4 : Nat) : Int)] ⟨0, .nil⟩ truthC = true := by decide +kernel
theorem lowerLimits_74_5 : callC Tryz.prog envK10 10000 1000 5 [.int .i64 ((74 : Nat) : Int), .int .i64 ((5 : Nat) : Int)] ⟨0, .nil⟩ truthC = true := by decide +kernel
theorem lowerLimits_74_6 : callC Tryz.prog envK10 10000 1000 5 [.int .i64 ((74 : Nat) : Int), .int .i64 ((6 : Nat) : Int)] ⟨0, .nil⟩ truthC = true := by decide +kernel
theorem lowerLimits_74_7 : callC Tryz.prog envK10 10000 1000 5 [.int .i64 ((74 : Nat) : Int), .int .i64 ((7 : Nat) : Int)] ⟨0, .nil⟩ truthC = true := by decide +kernel
theorem lowerLimits_74_8 : callC Tryz.prog envK10 10000 1000 5 [.int .i64 ((74 : Nat) : Int), .int .i64 ((8 : Nat) : Int)] ⟨0, .nil⟩ truthC = true := by decide +kernel

end Go.Proofs.YtaoglicedcgnoaaGreatDoor
