/-
  Facts on the program's types.
-/
import Derived.Test.YtiknomepbklibaaDoorProg
import Derived.Test.YtiknomepbklibaaDoorPcTyg
import Derived.Test.YtiknomepbklibaaDoorPcSy2
section
namespace Go.Proofs.YtiknomepbklibaaDoor
open Go
set_option maxRecDepth 100000

theorem tk_S_S_int : tk Tryd.prog 23 = .one := by kernel_rfl
theorem sz_S_S_int : sizeA Tryd.prog 23 = some 1 := by kernel_rfl
theorem ce_S_S_int : Tryd.prog.cellsOf 23 = 1 := by kernel_rfl
theorem un_S_S_int : Tryd.prog.underlying 23 = some (.slice 42) := by kernel_rfl
theorem el_S_S_int : elemOfA Tryd.prog 23 = some 1 := by kernel_rfl
theorem sl_S_S_int : SlT Tryd.prog 23 42 1 := ⟨un_S_S_int, by kernel_rfl, ⟨_, ze_S_int, rfl⟩, by kernel_rfl, by decide, by decide +kernel⟩
end Go.Proofs.YtiknomepbklibaaDoor
end
section
namespace Go.Proofs.YtiknomepbklibaaDoor
open Go
set_option linter.unusedVariables false

section
variable {P : Program} {G : Env} {K : List (Nat × AV)} {st : St} {t yt e : TypeId} {x y : Operand}
theorem os_eqPP (ht : P.underlying t = some (.pointer e)) (hx : opK G K x = some .nilp) (hy : opK G K y = some .nilp) : OpS P G K (.binOp .eql t x y yt) st (.bool true) st :=
 os_bin hx hy (by
  show need (eqFits (P.underlying t) .nilp) (ob (eqNil .nilp .nilp) fun b => some (AV.bool b)) = _
  rw [ht]; rfl)
theorem os_eqPN {c m o : Nat} (ht : P.underlying t = some (.pointer e)) (hx : opK G K x = some (.ptr c m o)) (hy : opK G K y = some .nilp) : OpS P G K (.binOp .eql t x y yt) st (.bool false) st :=
 os_bin hx hy (by
  show need (eqFits (P.underlying t) (.ptr c m o)) (ob (eqNil (.ptr c m o) .nilp) fun b => some (AV.bool b)) = _
  rw [ht]; rfl)
theorem os_nePN {c m o : Nat} (ht : P.underlying t = some (.pointer e)) (hx : opK G K x = some (.ptr c m o)) (hy : opK G K y = some .nilp) : OpS P G K (.binOp .neq t x y yt) st (.bool true) st :=
 os_bin hx hy (by
  show need (eqFits (P.underlying t) (.ptr c m o)) (ob (eqNil (.ptr c m o) .nilp) fun b => some (AV.bool !b)) = _
  rw [ht]; rfl)
end
end Go.Proofs.YtiknomepbklibaaDoor
end
