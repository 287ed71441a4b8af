/-
  Pointers and nil.
-/
import Derived.Test.YtjjadifjcodjpaaDoorSy2
namespace Go.Proofs.YtjjadifjcodjpaaDoor
open Go
set_option linter.unusedVariables false

section
variable {P : Program} {G : Env} {K : List (Nat × AV)} {st : St} {t yt e : TypeId} {x y : Operand}
theorem os_eqPP (ht : P.underlying t = some (.pointer e)) (hx : opK G K x = some .nilp) (hy : opK G K y = some .nilp) : OpS P G K (.binOp .eql t x y yt) st (.bool true) st :=
  os_bin hx hy (by
    show need (eqFits (P.underlying t) .nilp) (ob (eqNil .nilp .nilp) fun b => some (AV.bool b)) = _
    rw [ht]; rfl)
theorem os_eqPN {c m o : Nat} (ht : P.underlying t = some (.pointer e)) (hx : opK G K x = some (.ptr c m o)) (hy : opK G K y = some .nilp) : OpS P G K (.binOp .eql t x y yt) st (.bool false) st :=
  os_bin hx hy (by
    show need (eqFits (P.underlying t) (.ptr c m o)) (ob (eqNil (.ptr c m o) .nilp) fun b => some (AV.bool b)) = _
    rw [ht]; rfl)
theorem os_nePP (ht : P.underlying t = some (.pointer e)) (hx : opK G K x = some .nilp) (hy : opK G K y = some .nilp) : OpS P G K (.binOp .neq t x y yt) st (.bool false) st :=
  os_bin hx hy (by
    show need (eqFits (P.underlying t) .nilp) (ob (eqNil .nilp .nilp) fun b => some (AV.bool !b)) = _
    rw [ht]; rfl)
theorem os_nePN {c m o : Nat} (ht : P.underlying t = some (.pointer e)) (hx : opK G K x = some (.ptr c m o)) (hy : opK G K y = some .nilp) : OpS P G K (.binOp .neq t x y yt) st (.bool true) st :=
  os_bin hx hy (by
    show need (eqFits (P.underlying t) (.ptr c m o)) (ob (eqNil (.ptr c m o) .nilp) fun b => some (AV.bool !b)) = _
    rw [ht]; rfl)
end
end Go.Proofs.YtjjadifjcodjpaaDoor
