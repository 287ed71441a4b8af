/-
  The classes of runes: plain functions. No program here.
-/
import GoSem.Core.Utf8
namespace Go.Proofs.Ytcccnnfmhdogoaa
open Go

/-- A letter. -/
def letterB (r : Int) : Bool := decide ((97 ≤ r ∧ r ≤ 122) ∨ (65 ≤ r ∧ r ≤ 90) ∨ r = 95 ∨ (945 ≤ r ∧ r ≤ 969))
def digitB (r : Int) : Bool := decide (48 ≤ r ∧ r ≤ 57)
def spaceB (r : Int) : Bool := decide (r = 32 ∨ r = 9 ∨ r = 10 ∨ r = 13)
def signB (r : Int) : Bool := decide (r = 61 ∨ r = 126 ∨ r = 60 ∨ r = 62 ∨ r = 38 ∨ r = 124 ∨ r = 40 ∨ r = 41 ∨ r = 123 ∨ r = 125 ∨ r = 44 ∨ r = 59 ∨ r = 58 ∨ r = 43 ∨ r = 92 ∨ r = 35 ∨ r = 39)
/-- A rune's class. -/
def classOf (r : Int) : Int := if letterB r then 1 else if digitB r then 2 else if spaceB r then 3 else if signB r then 4 else 0

end Go.Proofs.Ytcccnnfmhdogoaa
