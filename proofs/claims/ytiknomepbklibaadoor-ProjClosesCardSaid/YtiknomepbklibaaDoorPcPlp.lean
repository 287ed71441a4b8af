/-
  Pools: the program's answers.
-/
import Derived.Test.YtiknomepbklibaaDoorPcPlo
namespace Go.Proofs.YtiknomepbklibaaDoor
open Go Go.RowKit
set_option linter.unusedVariables false
set_option linter.unusedSimpArgs false
set_option linter.unnecessarySimpa false
set_option maxRecDepth 100000
set_option maxHeartbeats 1000000

section
variable {P : Program} {G : Env} {N : Nat} {st : St} {T : Tr AV} {ops rest : List Oper} {K : List (Nat × AV)} {R : Tr AV → St → Prop} {d : Nat} {ty t : TypeId} {pos : String} {af : Array Edge}
noncomputable def newMap (st : St) : St := ⟨st.n + 1, st.h.set st.n (.map [] 0)⟩
end

end Go.Proofs.YtiknomepbklibaaDoor
