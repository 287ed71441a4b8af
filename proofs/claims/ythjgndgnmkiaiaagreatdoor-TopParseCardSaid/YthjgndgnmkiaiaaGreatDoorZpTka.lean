/-
  Closed calls that comp does: Of, Not.
-/
import Derived.Test.YthjgndgnmkiaiaaGreatDoorZpTk
set_option maxRecDepth 1000000
set_option linter.unusedVariables false
namespace Go.Proofs.YthjgndgnmkiaiaaGreatDoor
section
open Go Go.RowKit

theorem nQ:(LK [116,114,117,101] 0 0 0 DD).Xc Tryz.prog Xm 10000 1000 203=true:=by decide+kernel
theorem nP:(LK [115,105,110,103] 0 0 1 uE).Xc Tryz.prog Xm 10000 1000 203=true:=by decide+kernel
theorem nO:(LK [115,105,110,103] 1 0 2 aQ).Xc Tryz.prog Xm 10000 1000 203=true:=by decide+kernel
theorem nN:(LK [108,101,115,115] 0 1 2 Sk).Xc Tryz.prog Xm 10000 1000 203=true:=by decide+kernel
def Mk:List Na:=[LK [116,114,117,101] 0 0 0 DD,LK [115,105,110,103] 0 0 1 uE,LK [115,105,110,103] 1 0 2 aQ,LK [108,101,115,115] 0 1 2 Sk]
theorem yd: ∀e∈Mk,∃L fuel,e.Xc Tryz.prog Xm L fuel 203=true:=fun e he=>by
 simp only[Mk,List.mem_cons,List.not_mem_nil,or_false]at he;rcases he with rfl|rfl|rfl|rfl
 ·exact⟨_,_,nQ⟩
 ·exact⟨_,_,nP⟩
 ·exact⟨_,_,nO⟩
 ·exact⟨_,_,nN⟩
theorem kS:(U1 uE aP).Xc Tryz.prog Xm 10000 1000 199=true:=by decide+kernel
theorem kR:(U1 qb DD).Xc Tryz.prog Xm 10000 1000 199=true:=by decide+kernel
theorem kQ:(U1 DD qb).Xc Tryz.prog Xm 10000 1000 199=true:=by decide+kernel
theorem kP:(U1 Sk R1).Xc Tryz.prog Xm 10000 1000 199=true:=by decide+kernel
theorem kO:(U1 R1 Sk).Xc Tryz.prog Xm 10000 1000 199=true:=by decide+kernel
def Cw:List Na:=[U1 uE aP,U1 qb DD,U1 DD qb,U1 Sk R1,U1 R1 Sk]
theorem qK: ∀e∈Cw,∃L fuel,e.Xc Tryz.prog Xm L fuel 199=true:=fun e he=>by
 simp only[Cw,List.mem_cons,List.not_mem_nil,or_false]at he;rcases he with rfl|rfl|rfl|rfl|rfl
 ·exact⟨_,_,kS⟩
 ·exact⟨_,_,kR⟩
 ·exact⟨_,_,kQ⟩
 ·exact⟨_,_,kP⟩
 ·exact⟨_,_,kO⟩
end
end Go.Proofs.YthjgndgnmkiaiaaGreatDoor
