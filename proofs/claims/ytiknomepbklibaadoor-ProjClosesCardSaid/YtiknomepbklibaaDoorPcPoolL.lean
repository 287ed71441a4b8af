/-
  Numbers in order, each once; rows of numbers as texts. No program in this text.
-/
import Derived.Lib.SlicesCompact
import Derived.Lib.ItoaNum
import Derived.Test.YtiknomepbklibaaDoorPcKit
namespace Go.Proofs.YtiknomepbklibaaDoor
open Go
set_option linter.unusedVariables false

/-! Numbers in order. -/
def insZ (x : Int) : List Int → List Int
 | [] => [x]
 | y :: l => if y < x then y :: insZ x l else if y = x then y :: l else x :: y :: l
def orderZ (zs : List Int) : List Int := zs.mergeSort fun x y => decide (x ≤ y)
/-! Rows of numbers as texts. -/
def itoaN (n : Int) : List Nat := (Lib.itoa n).map UInt8.toNat
def keyN : List Int → List Nat
 | [] => []
 | n :: l => itoaN n ++ 44 :: keyN l
theorem dig_nat (u : Nat) (h : u < 10) : (UInt8.ofNat (48 + u)).toNat = 48 + u := by
 rw [UInt8.toNat_ofNat']; omega
theorem itoaN_bytes (n : Int) : ∀ x ∈ itoaN n, x < 256 := by
 intro x h
 obtain ⟨c, _, rfl⟩ := List.mem_map.1 h
 exact c.toNat_lt
theorem keyN_bytes : ∀ l : List Int, ∀ x ∈ keyN l, x < 256
 | [], x, h => by cases h
 | n :: l, x, h => by
  rw [keyN] at h
  rcases List.mem_append.1 h with h | h
  ·exact itoaN_bytes n x h
  ·rcases List.mem_cons.1 h with rfl | h
   ·decide
   ·exact keyN_bytes l x h

/-! Sets by number. -/
end Go.Proofs.YtiknomepbklibaaDoor
