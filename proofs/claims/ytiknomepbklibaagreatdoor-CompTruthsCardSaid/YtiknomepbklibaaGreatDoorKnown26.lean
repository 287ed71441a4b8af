/-
  What the laws of chapter 26 ask beside their own question is reckoned once.
-/
import Derived.Test.YtiknomepbklibaaGreatDoorPsq
namespace Go.Proofs.YtiknomepbklibaaGreatDoor
open Go
set_option maxRecDepth 1000000
set_option linter.unusedVariables false

theorem known26_true : callC Tryz.prog envQ 10000 1000 22 [] ⟨0, .nil⟩ truthC = true := by decide +kernel
noncomputable def envK26 : Env := envQ.known 22
theorem envK26_ok : EnvOk Tryz.prog envK26 := known_okI (fun _ => rfl) envQ_ok (fun _ _ h hb => TabsP.below h hb) mixed known26_true

end Go.Proofs.YtiknomepbklibaaGreatDoor
