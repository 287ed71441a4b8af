/-
  Parts filled in one by one.
-/
import Derived.Test.YtadjjadimlkkgaaGreatDoorLiSy2
namespace Go.Proofs.YtadjjadimlkkgaaGreatDoor
open Go
set_option linter.unusedVariables false

theorem P9{place:Nat→Option (Nat×Nat)}{i off:Nat}{v:AV}{ps:List (Nat×AV)}{l l1:List AV}(hp:place i=some (off,1))(hc:QE v=true)(ho:YC [v] off l=some l1):XH place ((i,v)::ps) l=XH place ps l1:=by
 rw[EX,hp,Qk,Zi hc];show QD true (ob (YC [v] off l) _)=_;rw[ho];rfl
theorem PA{place:Nat→Option (Nat×Nat)}{i off n:Nat}{v:AV}{ps:List (Nat×AV)}{l l1:List AV}(hp:place i=some (off,n))(hn:Nat.beq (Yo (Js v)) n=true)(ho:YC (Js v) off l=some l1):XH place ((i,v)::ps) l=XH place ps l1:=by
 rw[EX,hp,Qk];show QD (Nat.beq (Yo (Js v)) n) (ob (YC (Js v) off l) _)=_;rw[hn,ho];rfl
end Go.Proofs.YtadjjadimlkkgaaGreatDoor
