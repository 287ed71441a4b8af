/-
  'LexSigns', reckoned: first parameter 6 to 6.
-/
import Derived.Test.YtcccnnfmhdogoaaDoorKnown2
namespace Go.Proofs.YtcccnnfmhdogoaaDoor
open Go
set_option maxRecDepth 1000000

theorem lexSigns_6_0 : callC Tryd.prog envK2 10000 1000 7 [.int .i64 ((6 : Nat) : Int), .int .i64 ((0 : Nat) : Int)] ⟨0, .nil⟩ truthC = true := by decide +kernel
theorem lexSigns_6_1 : callC Tryd.prog envK2 10000 1000 7 [.int .i64 ((6 : Nat) : Int), .int .i64 ((1 : Nat) : Int)] ⟨0, .nil⟩ truthC = true := by decide +kernel
theorem lexSigns_6_2 : callC Tryd.prog envK2 10000 1000 7 [.int .i64 ((6 : Nat) : Int), .int .i64 ((2 : Nat) : Int)] ⟨0, .nil⟩ truthC = true := by decide +kernel
theorem lexSigns_6_3 : callC Tryd.prog envK2 10000 1000 7 [.int .i64 ((6 : Nat) : Int), .int .i64 ((3 : Nat) : Int)] ⟨0, .nil⟩ truthC = true := by decide +kernel
theorem lexSigns_6_4 : callC Tryd.prog envK2 10000 1000 7 [.int .i64 ((6 : Nat) : Int), .int .i64 ((4 : Nat) : Int)] ⟨0, .nil⟩ truthC = true := by decide +kernel
theorem lexSigns_6_5 : callC Tryd.prog envK2 10000 1000 7 [.int .i64 ((6 : Nat) : Int), .int .i64 ((5 : Nat) : Int)] ⟨0, .nil⟩ truthC = true := by decide +kernel
theorem lexSigns_6_6 : callC Tryd.prog envK2 10000 1000 7 [.int .i64 ((6 : Nat) : Int), .int .i64 ((6 : Nat) : Int)] ⟨0, .nil⟩ truthC = true := by decide +kernel
theorem lexSigns_6_7 : callC Tryd.prog envK2 10000 1000 7 [.int .i64 ((6 : Nat) : Int), .int .i64 ((7 : Nat) : Int)] ⟨0, .nil⟩ truthC = true := by decide +kernel
theorem lexSigns_6_8 : callC Tryd.prog envK2 10000 1000 7 [.int .i64 ((6 : Nat) : Int), .int .i64 ((8 : Nat) : Int)] ⟨0, .nil⟩ truthC = true := by decide +kernel
theorem lexSigns_6_9 : callC Tryd.prog envK2 10000 1000 7 [.int .i64 ((6 : Nat) : Int), .int .i64 ((9 : Nat) : Int)] ⟨0, .nil⟩ truthC = true := by decide +kernel
theorem lexSigns_6_10 : callC Tryd.prog envK2 10000 1000 7 [.int .i64 ((6 : Nat) : Int), .int .i64 ((10 : Nat) : Int)] ⟨0, .nil⟩ truthC = true := by decide +kernel
theorem lexSigns_6_11 : callC Tryd.prog envK2 10000 1000 7 [.int .i64 ((6 : Nat) : Int), .int .i64 ((11 : Nat) : Int)] ⟨0, .nil⟩ truthC = true := by decide +kernel
theorem lexSigns_6_12 : callC Tryd.prog envK2 10000 1000 7 [.int .i64 ((6 : Nat) : Int), .int .i64 ((12 : Nat) : Int)] ⟨0, .nil⟩ truthC = true := by decide +kernel
theorem lexSigns_6_13 : callC Tryd.prog envK2 10000 1000 7 [.int .i64 ((6 : Nat) : Int), .int .i64 ((13 : Nat) : Int)] ⟨0, .nil⟩ truthC = true := by decide +kernel
theorem lexSigns_6_14 : callC Tryd.prog envK2 10000 1000 7 [.int .i64 ((6 : Nat) : Int), .int .i64 ((14 : Nat) : Int)] ⟨0, .nil⟩ truthC = true := by decide +kernel
theorem lexSigns_6_15 : callC Tryd.prog envK2 10000 1000 7 [.int .i64 ((6 : Nat) : Int), .int .i64 ((15 : Nat) : Int)] ⟨0, .nil⟩ truthC = true := by decide +kernel
theorem lexSigns_6_16 : callC Tryd.prog envK2 10000 1000 7 [.int .i64 ((6 : Nat) : Int), .int .i64 ((16 : Nat) : Int)] ⟨0, .nil⟩ truthC = true := by decide +kernel
theorem lexSigns_6_17 : callC Tryd.prog envK2 10000 1000 7 [.int .i64 ((6 : Nat) : Int), .int .i64 ((17 : Nat) : Int)] ⟨0, .nil⟩ truthC = true := by decide +kernel
theorem lexSigns_6_18 : callC Tryd.prog envK2 10000 1000 7 [.int .i64 ((6 : Nat) : Int), .int .i64 ((18 : Nat) : Int)] ⟨0, .nil⟩ truthC = true := by decide +kernel

end Go.Proofs.YtcccnnfmhdogoaaDoor
