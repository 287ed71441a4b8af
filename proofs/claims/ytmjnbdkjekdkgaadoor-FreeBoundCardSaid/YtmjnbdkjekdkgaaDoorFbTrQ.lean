/-
  sibylref7.Names.
-/
import Derived.Test.YtmjnbdkjekdkgaaDoorFbTrP
import Derived.Test.YtmjnbdkjekdkgaaDoorFbTrO
namespace Go.Proofs.YtmjnbdkjekdkgaaDoor
open Go Go.RowKit
set_option linter.unusedVariables false
set_option linter.unusedSimpArgs false
set_option linter.unnecessarySimpa false
set_option maxRecDepth 100000
set_option maxHeartbeats 1000000

/-- Put in their places one by one. -/
noncomputable def insAll (acc : List (List Nat)) (l : List (List Nat)) : List (List Nat) := l.foldl (fun a x => insN x a) acc
mutual
/-- The reference's names. -/
noncomputable def refN : Nd → List (List Nat)
 | .mk op name _ _ kids => refL kids (if op = [101, 120] ∨ op = [97, 108, 108] then some name else none) (if op = [118, 97, 114] ∨ op = [105, 115] then [name] else [])
noncomputable def refL : List Nd → Option (List Nat) → List (List Nat) → List (List Nat)
 | [], _, acc => acc
 | k :: l, b, acc => refL l b (insAll acc ((refN k).filter fun x => !decide (b = some x)))
end
theorem insAll_cons (acc : List (List Nat)) (y : List Nat) (l : List (List Nat)) : insAll acc (y :: l) = insAll (insN y acc) l := rfl
end Go.Proofs.YtmjnbdkjekdkgaaDoor
