/-
  Parts filled in one by one.
-/
import Derived.Test.YtiknomepbklibaaDoorPcSy2
namespace Go.Proofs.YtiknomepbklibaaDoor
open Go
set_option linter.unusedVariables false

theorem fillA_one {place : Nat → Option (Nat × Nat)} {i off : Nat} {v : AV} {ps : List (Nat × AV)} {l l1 : List AV} (hp : place i = some (off, 1)) (hc : isCell v = true) (ho : overL [v] off l = some l1) : fillA place ((i, v) :: ps) l = fillA place ps l1 := by
 rw [fillA_cons, hp, ob_some, cells_one hc]
 show need true (ob (overL [v] off l) _) = _
 rw [ho]; rfl
theorem fillA_any {place : Nat → Option (Nat × Nat)} {i off n : Nat} {v : AV} {ps : List (Nat × AV)} {l l1 : List AV} (hp : place i = some (off, n)) (hn : Nat.beq (lenL (cellsA v)) n = true) (ho : overL (cellsA v) off l = some l1) : fillA place ((i, v) :: ps) l = fillA place ps l1 := by
 rw [fillA_cons, hp, ob_some]
 show need (Nat.beq (lenL (cellsA v)) n) (ob (overL (cellsA v) off l) _) = _
 rw [hn, ho]; rfl
end Go.Proofs.YtiknomepbklibaaDoor
