/-
  What the laws of chapter 10 ask beside their own question is reckoned once.
-/
import Derived.Test.YtaoglicedcgnoaaGreatDoorEnv
import Derived.Test.YtaoglicedcgnoaaGreatDoorEvU
namespace Go.Proofs.YtaoglicedcgnoaaGreatDoor
open Go
set_option maxRecDepth 1000000

theorem known10_true : callC Tryz.prog envB 10000 1000 15 [] ⟨0, .nil⟩ truthC = true := by decide +kernel
noncomputable def envK10 : Env := envB.known 15
theorem envK10_ok : EnvOk Tryz.prog envK10 := known_ok (fun _ => rfl) envB_ok (fun _ => rfl) mixed known10_true

end Go.Proofs.YtaoglicedcgnoaaGreatDoor
