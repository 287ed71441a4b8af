/-
  What the reckoner knows of the program: its ranges over rows from behind.
-/
import Derived.Test.YtiknomepbklibaaGreatDoorProg
import Derived.Test.YtiknomepbklibaaGreatDoorQhEv3
namespace Go.Proofs.YtiknomepbklibaaGreatDoor
open Go
set_option linter.unusedVariables false

noncomputable section

def TG(l:List (FuncId×TypeId×TypeId))(f:FuncId):Option (TypeId×TypeId):=List.rec none (fun q _ ih=>Qj (Nat.beq f q.1) (some q.2) ih) l
theorem GN{l:List (FuncId×TypeId×TypeId)}{f:FuncId}{q:TypeId×TypeId}(h:TG l f=some q):(f,q)∈l:=by
 induction l with
 |nil=>cases h
 |cons x l ih=>
  have h:Qj (Nat.beq f x.1) (some x.2) (TG l f)=some q:=h
  cases hb:Nat.beq f x.1 with
  |true=>
   rw[hb]at h
   injection h with h
   subst h;rw[Nat.eq_of_beq_eq_true hb];exact List.mem_cons_self ..
  |false=>rw[hb]at h;exact List.mem_cons_of_mem _ (ih h)
def TV:List (FuncId×TypeId×TypeId):=
 []
theorem P1: ∀x∈TV,S9 Tryz.prog x.2 x.1:=by
 intro x hx;unfold TV at hx;cases hx
end
theorem mixed:Tryz.prog.follows .mixedOrders=true:=by decide+kernel

end Go.Proofs.YtiknomepbklibaaGreatDoor
