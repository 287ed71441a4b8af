/-
  Parts filled in one by one.
-/
import Derived.Test.YtadjjadimlkkgaaGreatDoorMnSy2
namespace Go.Proofs.YtadjjadimlkkgaaGreatDoor
open Go
set_option linter.unusedVariables false

theorem NB{place:Nat→Option (Nat×Nat)}{i off:Nat}{v:AV}{ps:List (Nat×AV)}{l l1:List AV}(hp:place i=some (off,1))(hc:QI v=true)(ho:ZM [v] off l=some l1):Wn place ((i,v)::ps) l=Wn place ps l1:=by
 rw[KP,hp,Qh,Va hc];show QD true (ob (ZM [v] off l) _)=_;rw[ho];rfl
end Go.Proofs.YtadjjadimlkkgaaGreatDoor
