/-
  What the reckoner knows of the program: functions that were walked elsewhere, what the laws ask beside their own question, the tables at the start.
-/
import Derived.Test.YtmjnbdkjekdkgaaDoorFbEnv
import Derived.Test.YtmjnbdkjekdkgaaDoorFbEv3
import Derived.Test.YtmjnbdkjekdkgaaDoorFbLexU
import Derived.Test.YtmjnbdkjekdkgaaDoorFbKnown3
import Derived.Test.YtmjnbdkjekdkgaaDoorFbKnown7
import Derived.Test.YtmjnbdkjekdkgaaDoorFbSortS
namespace Go.Proofs.YtmjnbdkjekdkgaaDoor
open Go
set_option linter.unusedVariables false

noncomputable section
def sumsD : List (FuncId × (List AV → St → Option (AV × St))) :=
 (78, sumRow 4 sTokens) ::
 (80, sumRow 2 sEach) ::
 (138, sumQ sClass) ::
 (19, sumTrue) ::
 (25, sumTrue) ::
 (49, sumPut sortB sortV fun _ => .tup []) ::
 (50, sumPut compB compV id) ::
 []
def envD : Env := ⟨fun _ => false, findB backs, findS sumsD, Tabs⟩
end
theorem envD_ok : EnvOk Tryd.prog envD := ⟨fun f q h => backs_ok (f, q) (findB_mem h), fun f sm h => by
 have h : findS sumsD f = some sm := h
 have h := findS_mem h
 unfold sumsD at h
 rcases List.mem_cons.1 h with h | h
 ·injection h with e1 e2; subst e1 e2; exact tokens_sum
 rcases List.mem_cons.1 h with h | h
 ·injection h with e1 e2; subst e1 e2; exact each_sum rfl
 rcases List.mem_cons.1 h with h | h
 ·injection h with e1 e2; subst e1 e2; exact class_sum
 rcases List.mem_cons.1 h with h | h
 ·injection h with e1 e2; subst e1 e2; exact sumTrue_ok (fun _ => rfl) envB_ok (fun _ => trivial) mixed known3_true
 rcases List.mem_cons.1 h with h | h
 ·injection h with e1 e2; subst e1 e2; exact sumTrue_ok (fun _ => rfl) envB_ok (fun _ => trivial) mixed known7_true
 rcases List.mem_cons.1 h with h | h
 ·injection h with e1 e2; subst e1 e2; exact sort_sum
 rcases List.mem_cons.1 h with h | h
 ·injection h with e1 e2; subst e1 e2; exact compact_sum
 cases h⟩
end Go.Proofs.YtmjnbdkjekdkgaaDoor
