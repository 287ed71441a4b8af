/-
  Facts on the program's types.
-/
import Derived.Test.YtjjadifjcodjpaaDoorTys
import Derived.Test.YtjjadifjcodjpaaDoorProg
namespace Go.Proofs.YtjjadifjcodjpaaDoor
open Go
set_option maxRecDepth 100000

theorem tk_S_int : tk Tryd.prog 22 = .one := by kernel_rfl
theorem sz_S_int : sizeA Tryd.prog 22 = some 1 := by kernel_rfl
theorem ze_S_int : zeroOf Tryd.prog 22 = some [.nils] := by kernel_rfl
theorem ce_S_int : Tryd.prog.cellsOf 22 = 1 := by kernel_rfl
theorem un_S_int : Tryd.prog.underlying 22 = some (.slice 3) := by kernel_rfl
theorem el_S_int : elemOfA Tryd.prog 22 = some 1 := by kernel_rfl
theorem sl_S_int : SlT Tryd.prog 22 3 1 := ⟨un_S_int, by kernel_rfl, ⟨_, ze_int, rfl⟩, by kernel_rfl, by decide, by decide +kernel⟩
end Go.Proofs.YtjjadifjcodjpaaDoor
