/-
  What the laws of chapter 7 ask beside their own question is reckoned once.
-/
import Derived.Test.YtmjnbdkjekdkgaaDoorEnv
import Derived.Test.YtmjnbdkjekdkgaaDoorEv3
namespace Go.Proofs.YtmjnbdkjekdkgaaDoor
open Go
set_option maxRecDepth 1000000

theorem known7_true : callC Tryd.prog envB 10000 1000 25 [] ⟨0, .nil⟩ truthC = true := by decide +kernel
noncomputable def envK7 : Env := envB.known 25
theorem envK7_ok : EnvOk Tryd.prog envK7 := known_ok (fun _ => rfl) envB_ok (fun _ => rfl) (fun _ => trivial) mixed known7_true

end Go.Proofs.YtmjnbdkjekdkgaaDoor
