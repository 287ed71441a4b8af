/-
  What the laws of chapter 7 ask beside their own question is reckoned once.
-/
import Derived.Test.YtmjnbdkjekdkgaaDoorFbEnv
import Derived.Test.YtmjnbdkjekdkgaaDoorFbEv3
namespace Go.Proofs.YtmjnbdkjekdkgaaDoor
open Go
set_option maxRecDepth 1000000

theorem known7_true : callC Tryd.prog envB 10000 1000 25 [] ⟨0, .nil⟩ truthC = true := by decide +kernel
noncomputable def envK7 : Env := envB.known 25
end Go.Proofs.YtmjnbdkjekdkgaaDoor
