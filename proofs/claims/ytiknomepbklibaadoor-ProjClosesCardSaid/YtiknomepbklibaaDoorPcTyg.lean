/-
  Facts on the program's types.
-/
import Derived.Test.YtiknomepbklibaaDoorProg
import Derived.Test.YtiknomepbklibaaDoorPcSy2
section
namespace Go.Proofs.YtiknomepbklibaaDoor
open Go
set_option maxRecDepth 100000

theorem tk_int : tk Tryd.prog 3 = .one := by kernel_rfl
theorem sz_int : sizeA Tryd.prog 3 = some 1 := by kernel_rfl
theorem ze_int : zeroOf Tryd.prog 3 = some [.int .i64 0] := by kernel_rfl
theorem ce_int : Tryd.prog.cellsOf 3 = 1 := by kernel_rfl
theorem un_int : Tryd.prog.underlying 3 = some (.int .i64) := by kernel_rfl
theorem tk_bool : tk Tryd.prog 4 = .one := by kernel_rfl
theorem sz_bool : sizeA Tryd.prog 4 = some 1 := by kernel_rfl
theorem ze_bool : zeroOf Tryd.prog 4 = some [.bool false] := by kernel_rfl
theorem un_bool : Tryd.prog.underlying 4 = some (.bool) := by kernel_rfl
theorem un_uint : Tryd.prog.underlying 43 = some (.int .u64) := by kernel_rfl
end Go.Proofs.YtiknomepbklibaaDoor
end
section
namespace Go.Proofs.YtiknomepbklibaaDoor
open Go
set_option maxRecDepth 100000

theorem tk_S_int : tk Tryd.prog 42 = .one := by kernel_rfl
theorem sz_S_int : sizeA Tryd.prog 42 = some 1 := by kernel_rfl
theorem ze_S_int : zeroOf Tryd.prog 42 = some [.nils] := by kernel_rfl
theorem ce_S_int : Tryd.prog.cellsOf 42 = 1 := by kernel_rfl
theorem un_S_int : Tryd.prog.underlying 42 = some (.slice 3) := by kernel_rfl
theorem el_S_int : elemOfA Tryd.prog 42 = some 1 := by kernel_rfl
theorem sl_S_int : SlT Tryd.prog 42 3 1 := ⟨un_S_int, by kernel_rfl, ⟨_, ze_int, rfl⟩, by kernel_rfl, by decide, by decide +kernel⟩
end Go.Proofs.YtiknomepbklibaaDoor
end
