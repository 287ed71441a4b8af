/-
  What the laws of chapter 2 ask beside their own question is reckoned once.
-/
import Derived.Test.YtcccnnfmhdogoaaDoorEnv
import Derived.Test.YtcccnnfmhdogoaaDoorEv3
namespace Go.Proofs.YtcccnnfmhdogoaaDoor
open Go
set_option maxRecDepth 1000000

theorem known2_true : callC Tryd.prog envB 10000 1000 14 [] ⟨0, .nil⟩ truthC = true := by decide +kernel
noncomputable def envK2 : Env := envB.known 14
theorem envK2_ok : EnvOk Tryd.prog envK2 := known_ok (fun _ => rfl) envB_ok (fun _ => rfl) (fun _ => trivial) mixed known2_true

end Go.Proofs.YtcccnnfmhdogoaaDoor
