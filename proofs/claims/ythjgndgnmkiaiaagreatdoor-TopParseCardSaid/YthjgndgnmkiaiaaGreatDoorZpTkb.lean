/-
  Closed calls that comp does: Min.
-/
import Derived.Test.YthjgndgnmkiaiaaGreatDoorZpTk
set_option maxRecDepth 1000000
set_option linter.unusedVariables false
namespace Go.Proofs.YthjgndgnmkiaiaaGreatDoor
section
open Go Go.RowKit

theorem lh:(U1 DD DD).Xc Tryz.prog Xm 10000 1000 157=true:=by decide+kernel
theorem lg:(U1 uE uE).Xc Tryz.prog Xm 10000 1000 157=true:=by decide+kernel
theorem lb:(U1 aQ aQ).Xc Tryz.prog Xm 10000 1000 157=true:=by decide+kernel
theorem kZ:(U1 Sk Sk).Xc Tryz.prog Xm 10000 1000 157=true:=by decide+kernel
theorem kY:(U1 ny Sk).Xc Tryz.prog Xm 10000 1000 157=true:=by decide+kernel
theorem kX:(U1 nw uE).Xc Tryz.prog Xm 10000 1000 157=true:=by decide+kernel
theorem kW:(U1 aP aP).Xc Tryz.prog Xm 10000 1000 157=true:=by decide+kernel
theorem kV:(U1 nu nt).Xc Tryz.prog Xm 10000 1000 157=true:=by decide+kernel
theorem kU:(U1 qb qb).Xc Tryz.prog Xm 10000 1000 157=true:=by decide+kernel
theorem kT:(U1 R1 R1).Xc Tryz.prog Xm 10000 1000 157=true:=by decide+kernel
def Cx:List Na:=[U1 DD DD,U1 uE uE,U1 aQ aQ,U1 Sk Sk,U1 ny Sk,U1 nw uE,U1 aP aP,U1 nu nt,U1 qb qb,U1 R1 R1]
theorem qL: ∀e∈Cx,∃L fuel,e.Xc Tryz.prog Xm L fuel 157=true:=fun e he=>by
 simp only[Cx,List.mem_cons,List.not_mem_nil,or_false]at he;rcases he with rfl|rfl|rfl|rfl|rfl|rfl|rfl|rfl|rfl|rfl
 ·exact⟨_,_,lh⟩
 ·exact⟨_,_,lg⟩
 ·exact⟨_,_,lb⟩
 ·exact⟨_,_,kZ⟩
 ·exact⟨_,_,kY⟩
 ·exact⟨_,_,kX⟩
 ·exact⟨_,_,kW⟩
 ·exact⟨_,_,kV⟩
 ·exact⟨_,_,kU⟩
 ·exact⟨_,_,kT⟩
end
end Go.Proofs.YthjgndgnmkiaiaaGreatDoor
