/-
  What the reckoner knows of the program: its ranges over rows from behind.
-/
import Derived.Test.YtildagdnomiahaaGreatDoorProg
import Derived.Test.YtildagdnomiahaaGreatDoorQvEv3
namespace Go.Proofs.YtildagdnomiahaaGreatDoor
open Go
set_option linter.unusedVariables false

noncomputable section

def Gg(l:List (FuncId×TypeId×TypeId))(f:FuncId):Option (TypeId×TypeId):=List.rec none (fun q _ ih=>Qj (Nat.beq f q.1) (some q.2) ih) l
theorem Ir{l:List (FuncId×TypeId×TypeId)}{f:FuncId}{q:TypeId×TypeId}(h:Gg l f=some q):(f,q)∈l:=by
 induction l with
 |nil=>cases h
 |cons x l ih=>
  have h:Qj (Nat.beq f x.1) (some x.2) (Gg l f)=some q:=h
  cases hb:Nat.beq f x.1 with
  |true=>
   rw[hb]at h
   injection h with h
   subst h;rw[Nat.eq_of_beq_eq_true hb];exact List.mem_cons_self ..
  |false=>rw[hb]at h;exact List.mem_cons_of_mem _ (ih h)
def Gu:List (FuncId×TypeId×TypeId):=
 (228,22,40)::
 (232,47,9)::
 (240,230,238)::
 []
theorem N8: ∀x∈Gu,Se Tryz.prog x.2 x.1:=by
 intro x hx;unfold Gu at hx;rcases List.mem_cons.1 hx with rfl|hx
 ·exact⟨3,4,269,0,_,Tryz.func228,rfl,rfl,rfl,by decide+kernel⟩
 rcases List.mem_cons.1 hx with rfl|hx
 ·exact⟨3,4,272,0,_,Tryz.func232,rfl,rfl,rfl,by decide+kernel⟩
 rcases List.mem_cons.1 hx with rfl|hx
 ·exact⟨3,4,276,0,_,Tryz.func240,rfl,rfl,rfl,by decide+kernel⟩
 cases hx
end
theorem mixed:Tryz.prog.follows .mixedOrders=true:=by decide+kernel

end Go.Proofs.YtildagdnomiahaaGreatDoor
