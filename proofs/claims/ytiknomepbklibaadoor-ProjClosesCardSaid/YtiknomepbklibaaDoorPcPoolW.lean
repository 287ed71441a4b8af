/-
  Where a cell of an array lies.
-/
import Derived.Test.YtiknomepbklibaaDoorPcSy2
import Derived.Test.YtiknomepbklibaaDoorPcTyg
import Derived.Test.YtiknomepbklibaaDoorPcPsum
import Derived.Test.YtiknomepbklibaaDoorPcRdZ
import Derived.Test.YtiknomepbklibaaDoorPcPtr
section
namespace Go.Proofs.YtiknomepbklibaaDoor
open Go
set_option linter.unusedVariables false

theorem ce_int1 : Program.cellsOf Tryd.prog 3 = 1 := by kernel_rfl
/-- Is a row nil? -/
def nilB : AV → Bool
  | .nils => true
  | _ => false
theorem os_eqNilA {P : Program} {G : Env} {K : List (Nat × AV)} {st : St} {t yt e : TypeId} {x y : Operand} {kb : AV} {n : Nat} (hn : slLen kb = some n) (ht : P.underlying t = some (.slice e)) (hx : opK G K x = some kb) (hy : opK G K y = some .nils) : OpS P G K (.binOp .eql t x y yt) st (.bool (nilB kb)) st :=
 os_bin hx hy (by
  cases kb <;> first | (cases hn; done) | skip
  all_goals
   show need (eqFits (P.underlying t) _) (ob (eqNil _ .nils) fun b => some (AV.bool b)) = _
   rw [ht]; rfl)
theorem nilB_eq {kb : AV} (h : nilB kb = true) : kb = .nils := by cases kb <;> first | rfl | cases h
end Go.Proofs.YtiknomepbklibaaDoor
end
section
namespace Go.Proofs.YtiknomepbklibaaDoor
open Go Go.RowKit
set_option linter.unusedVariables false
set_option maxRecDepth 100000

abbrev Rows1 := List (Nat × Nat × List AV)
section
variable {h0 : Hp} {n0 : Nat} {X : List Nat} {st st' : St} {M L A B : Rows1} {ks : AV} {l : List Int}
end
theorem nil_of_len {α : Type} {l : List α} (h : l.length = 0) : l = [] := List.length_eq_zero_iff.1 h
section
variable {h0 : Hp} {n0 : Nat} {X : List Nat} {st : St} {L A B : Rows1} {ks : AV} {l : List Int}
end
end Go.Proofs.YtiknomepbklibaaDoor
end
