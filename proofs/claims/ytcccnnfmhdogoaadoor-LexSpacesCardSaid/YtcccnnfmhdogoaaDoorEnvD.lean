/-
  What the reckoner knows of the program: functions that were walked elsewhere, what the laws ask beside their own question, the tables at the start.
-/
import Derived.Test.YtcccnnfmhdogoaaDoorEnv
import Derived.Test.YtcccnnfmhdogoaaDoorEv3
import Derived.Test.YtcccnnfmhdogoaaDoorLexU
import Derived.Test.YtcccnnfmhdogoaaDoorKnown2
namespace Go.Proofs.YtcccnnfmhdogoaaDoor
open Go
set_option linter.unusedVariables false

noncomputable section
def sumsD : List (FuncId × (List AV → St → Option (AV × St))) :=
  (11, sumRow 4 sTokens) ::
  (9, sumRow 2 sEach) ::
  (43, sumQ sClass) ::
  (14, sumTrue) ::
  []
def envD : Env := ⟨fun _ => false, findB backs, findS sumsD, Tabs⟩
end
theorem envD_ok : EnvOk Tryd.prog envD := ⟨fun f q h => backs_ok (f, q) (findB_mem h), fun f sm h => by
  have h : findS sumsD f = some sm := h
  have h := findS_mem h
  unfold sumsD at h
  rcases List.mem_cons.1 h with h | h
  · injection h with e1 e2; subst e1 e2; exact tokens_sum
  rcases List.mem_cons.1 h with h | h
  · injection h with e1 e2; subst e1 e2; exact each_sum rfl
  rcases List.mem_cons.1 h with h | h
  · injection h with e1 e2; subst e1 e2; exact class_sum
  rcases List.mem_cons.1 h with h | h
  · injection h with e1 e2; subst e1 e2; exact sumTrue_ok (fun _ => rfl) envB_ok (fun _ => trivial) mixed known2_true
  cases h⟩
end Go.Proofs.YtcccnnfmhdogoaaDoor
