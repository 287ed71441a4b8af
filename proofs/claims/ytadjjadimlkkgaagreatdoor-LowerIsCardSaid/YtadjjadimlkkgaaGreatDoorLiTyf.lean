/-
  Facts on the program's types.
-/
import Derived.Test.YtadjjadimlkkgaaGreatDoorLiTyg
namespace Go.Proofs.YtadjjadimlkkgaaGreatDoor
open Go
set_option maxRecDepth 100000

theorem VL:tk Tryz.prog 55=.one:=by kernel_rfl
end Go.Proofs.YtadjjadimlkkgaaGreatDoor
