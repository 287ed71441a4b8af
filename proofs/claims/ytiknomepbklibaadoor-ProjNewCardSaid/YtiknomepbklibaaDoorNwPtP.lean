/-
  There is a track, plainly: words with a track's bits.
-/
import Derived.Test.YtiknomepbklibaaDoorNwPrP
namespace Go.Proofs.YtiknomepbklibaaDoor
open Go Go.RowKit
set_option linter.unusedVariables false

/-- A word with a track's bits; behind the end all others are 0. -/
def lt0 (w : List Nat) (i : Nat) : Nat := (w[i]?).getD 0
/-! The sets that words lead to. -/
/-- Letters of the track alone. -/
def Tk (k c : Nat) : Prop := c = 0 ∨ c = 2 ^ k
end Go.Proofs.YtiknomepbklibaaDoor
