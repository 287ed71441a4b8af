/-
  sibylref7.Add, Has: rows of texts in their order.
-/
import Derived.Test.YtmjnbdkjekdkgaaDoorFsTrM
namespace Go.Proofs.YtmjnbdkjekdkgaaDoor
open Go Go.RowKit
set_option linter.unusedVariables false
set_option linter.unusedSimpArgs false
set_option linter.unnecessarySimpa false
set_option maxRecDepth 100000
set_option maxHeartbeats 1000000

/-- Put in its place, if it isn't there. -/
noncomputable def insN (x : List Nat) : List (List Nat) → List (List Nat)
  | [] => [x]
  | y :: l => if ltT y x then y :: insN x l else if y = x then y :: l else x :: y :: l
/-- A part of a row. -/
noncomputable def sliceV (kb : AV) (a b : Nat) : AV := match kb with
  | .sl c m off len z => bif' (bif' (Nat.beq a 0) true (Nat.ble (a + 1) len)) (.sl c m (off + a * z) (b - a) z) (.slz c m off a z)
  | _ => .nils
theorem take_step {α : Type} {l : List α} {i : Nat} {y : α} (h : l[i]? = some y) : l.take (i + 1) = l.take i ++ [y] := by
 rw [List.take_add_one, h]; rfl

end Go.Proofs.YtmjnbdkjekdkgaaDoor
