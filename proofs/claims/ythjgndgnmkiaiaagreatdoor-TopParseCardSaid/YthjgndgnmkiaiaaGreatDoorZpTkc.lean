/-
  Closed calls that comp does: Both, Project.
-/
import Derived.Test.YthjgndgnmkiaiaaGreatDoorZpTk
set_option maxRecDepth 1000000
set_option linter.unusedVariables false
namespace Go.Proofs.YthjgndgnmkiaiaaGreatDoor
section
open Go Go.RowKit

theorem fC:(WQ aQ Sk ny).Xc Tryz.prog Xm 10000 1000 200=true:=by decide+kernel
theorem fB:(WQ uE aP nu).Xc Tryz.prog Xm 10000 1000 200=true:=by decide+kernel
theorem fA:(WQ DD DD DD).Xc Tryz.prog Xm 10000 1000 200=true:=by decide+kernel
theorem fy:(WQ DD qb qb).Xc Tryz.prog Xm 10000 1000 200=true:=by decide+kernel
def Ng:List Na:=[WQ aQ Sk ny,WQ uE aP nu,WQ DD DD DD,WQ DD qb qb]
theorem S0: ∀e∈Ng,∃L fuel,e.Xc Tryz.prog Xm L fuel 200=true:=fun e he=>by
 simp only[Ng,List.mem_cons,List.not_mem_nil,or_false]at he;rcases he with rfl|rfl|rfl|rfl
 ·exact⟨_,_,fC⟩
 ·exact⟨_,_,fB⟩
 ·exact⟨_,_,fA⟩
 ·exact⟨_,_,fy⟩
end
section
open Go Go.RowKit

theorem qN:(Ny Sk 1 nw).Xc Tryz.prog Xm 10000 1000 202=true:=by decide+kernel
theorem qM:(Ny nt 0 qb).Xc Tryz.prog Xm 10000 1000 202=true:=by decide+kernel
def EO:List Na:=[Ny Sk 1 nw,Ny nt 0 qb]
theorem G1: ∀e∈EO,∃L fuel,e.Xc Tryz.prog Xm L fuel 202=true:=fun e he=>by
 simp only[EO,List.mem_cons,List.not_mem_nil,or_false]at he;rcases he with rfl|rfl
 ·exact⟨_,_,qN⟩
 ·exact⟨_,_,qM⟩
end
end Go.Proofs.YthjgndgnmkiaiaaGreatDoor
