/-
  Small laws on worlds, rows of cells and endings: of no program.
-/
import Derived.WalkKit
import Derived.Outline
import Derived.LoopTactic
import Derived.Deep.DeepCutAuto
import Derived.Lib.Hide
import Derived.WalkSpells
import Derived.Below
import Derived.OwnWalk
import Derived.Lib.OthersKept
import Derived.Deep.LoopGhost
import Derived.WalkSmall
import Derived.Deep.QuietTactic
import Derived.BigQuiet
import Derived.StillTailTactics
namespace Go.Proofs.YtiknomepbklibaaGreatDoor
open Go Go.RowKit
set_option linter.unusedVariables false

/-- Draws stand outermost: laid as rules of the walk, by 'attribute [local go_sem]', where a text wants them. -/
theorem drewN_alloc (w : World) (n : Nat) (o : Obj) : (w.drewN n).alloc o = (w.alloc o).drewN n := rfl
theorem drewN_setCell (w : World) (n : Nat) (a : Addr) (v : Value) : (w.drewN n).setCell a v = (w.setCell a v).drewN n := rfl
theorem add_zero_off (b o j : Nat) : (⟨b, o, none⟩ : Addr).add j = ⟨b, o + j, none⟩ := by
 unfold Addr.add; split <;> simp_all

theorem alloc_keep (w : World) (o : Obj) {k : Nat} (h : k < w.heap.size) : (w.alloc o).heap[k]? = w.heap[k]? := Below.heap_alloc w o k h
/-- The cells of a block that has just been laid. -/
theorem cells_new (w : World) (cs : Array Value) (t : TypeId) (l : List Value) (hl : cs.toList = l) :
    ∀ j u, l[j]? = some u → (w.alloc (.cells cs t)).cell? ((⟨w.heap.size, 0, none⟩ : Addr).add j) = some u := by
  intro j u hu
  subst hl
  rw [add_zero_off, cell_of_row (w.alloc (.cells cs t)) w.heap.size (0 + j) cs t (0, 0) (heap_alloc_new w _)]
  simpa using hu

/-! Frames of one block: everything else below stands. -/
section
variable {w w' : World} {base base' : Nat} {e : TypeId} {size : Nat} {v : Value} {n : Nat} {xs : List Value}
end

end Go.Proofs.YtiknomepbklibaaGreatDoor
