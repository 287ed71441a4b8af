/-
  What the laws of chapter 3 ask beside their own question is reckoned once.
-/
import Derived.Test.YtmjnbdkjekdkgaaEnv
import Derived.Test.YtmjnbdkjekdkgaaEvU
namespace Go.Proofs.Ytmjnbdkjekdkgaa
open Go
set_option maxRecDepth 1000000

theorem known3_true : callC Try.prog envB 10000 1000 8 [] ⟨0, .nil⟩ truthC = true := by decide +kernel
noncomputable def envK3 : Env := envB.known 8
theorem envK3_ok : EnvOk Try.prog envK3 := known_ok (fun _ => rfl) envB_ok (fun _ => rfl) mixed known3_true

end Go.Proofs.Ytmjnbdkjekdkgaa
