/-
  What the laws of chapter 3 ask beside their own question is reckoned once.
-/
import Derived.Test.YtmjnbdkjekdkgaaDoorFbEnv
import Derived.Test.YtmjnbdkjekdkgaaDoorFbEv3
namespace Go.Proofs.YtmjnbdkjekdkgaaDoor
open Go
set_option maxRecDepth 1000000

theorem known3_true : callC Tryd.prog envB 10000 1000 19 [] ⟨0, .nil⟩ truthC = true := by decide +kernel
noncomputable def envK3 : Env := envB.known 19
end Go.Proofs.YtmjnbdkjekdkgaaDoor
