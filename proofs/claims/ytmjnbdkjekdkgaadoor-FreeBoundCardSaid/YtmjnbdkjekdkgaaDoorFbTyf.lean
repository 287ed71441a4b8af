/-
  Facts on the program's types.
-/
import Derived.Test.YtmjnbdkjekdkgaaDoorProg
import Derived.Test.YtmjnbdkjekdkgaaDoorFbTys
namespace Go.Proofs.YtmjnbdkjekdkgaaDoor
open Go
set_option maxRecDepth 100000

theorem tk_func_api_Node__bool : tk Tryd.prog 25 = .one := by kernel_rfl
end Go.Proofs.YtmjnbdkjekdkgaaDoor
