/-
  What the laws of chapter 22 ask beside their own question is reckoned once.
-/
import Derived.Test.YtiknomepbklibaaDoorPcPsq
import Derived.Test.YtiknomepbklibaaDoorPcEv4
section
namespace Go.Proofs.YtiknomepbklibaaDoor
open Go
set_option maxRecDepth 1000000
set_option linter.unusedVariables false

theorem known22_true : isTrue (callF Tryd.prog envQ 10000 1000 9 [] ⟨0, .nil⟩) = true := callC_true (by decide +kernel)

end Go.Proofs.YtiknomepbklibaaDoor
end
section
namespace Go.Proofs.YtiknomepbklibaaDoor
open Go Go.RowKit Go.Shelf Go.Sort
set_option linter.unusedVariables false

noncomputable section
def sumsP : List (FuncId × (List AV → St → Option (AV × St))) :=
 (63, sumKey) ::
 (9, sumTrue) ::
 (50, sumPutZ orderZ sortZV fun _ => .tup []) ::
 (51, sumPutZ compZ compZV id) ::
 []
def envP : Env := ⟨fun _ => false, findB backs, findS sumsP, TabsP⟩
end
theorem envP_ok : EnvOk Tryd.prog envP := ⟨fun f q h => backs_ok (f, q) (findB_mem h), fun f sm h => by
 have h : findS sumsP f = some sm := h
 have h := findS_mem h
 unfold sumsP at h
 rcases List.mem_cons.1 h with h | h
 ·injection h with e1 e2; subst e1 e2; exact key_sum fun w0 w h hb => TabsP.below h hb
 rcases List.mem_cons.1 h with h | h
 ·injection h with e1 e2; subst e1 e2; exact sumTrue_okI (fun _ => rfl) envQ_ok (fun w0 w h hb => TabsP.below h hb) mixed known22_true
 rcases List.mem_cons.1 h with h | h
 ·injection h with e1 e2; subst e1 e2; exact sortI_sum
 rcases List.mem_cons.1 h with h | h
 ·injection h with e1 e2; subst e1 e2; exact compactI_sum
 cases h⟩
theorem known22_ev (st : St) : Ev Tryd.prog envP 9 [] st (.bool true) st := ⟨0, 1, rfl⟩
end Go.Proofs.YtiknomepbklibaaDoor
end
