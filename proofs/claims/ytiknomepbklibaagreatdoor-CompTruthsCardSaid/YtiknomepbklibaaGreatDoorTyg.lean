/-
  Facts on the program's types.
-/
import Derived.Test.YtiknomepbklibaaGreatDoorTys
import Derived.Test.YtiknomepbklibaaGreatDoorProg
namespace Go.Proofs.YtiknomepbklibaaGreatDoor
open Go
set_option maxRecDepth 100000

theorem tk_S_api_Core : tk Tryz.prog 42 = .one := by kernel_rfl
theorem sz_S_api_Core : sizeA Tryz.prog 42 = some 1 := by kernel_rfl
theorem ze_S_api_Core : zeroOf Tryz.prog 42 = some [.nils] := by kernel_rfl
theorem ce_S_api_Core : Tryz.prog.cellsOf 42 = 1 := by kernel_rfl
theorem un_S_api_Core : Tryz.prog.underlying 42 = some (.slice 44) := by kernel_rfl
theorem el_S_api_Core : elemOfA Tryz.prog 42 = some 6 := by kernel_rfl
theorem tk_api_Core : tk Tryz.prog 44 = .agg 6 := by kernel_rfl
theorem sz_api_Core : sizeA Tryz.prog 44 = some 6 := by kernel_rfl
theorem ze_api_Core : zeroOf Tryz.prog 44 = some [.str [], .int .i64 0, .int .i64 0, .int .i64 0, .int .i64 0, .nils] := by kernel_rfl
theorem ce_api_Core : Tryz.prog.cellsOf 44 = 6 := by kernel_rfl
theorem fo_api_Core_0 : fieldOff Tryz.prog 44 0 = some 0 := by kernel_rfl
theorem fo_api_Core_1 : fieldOff Tryz.prog 44 1 = some 1 := by kernel_rfl
theorem fo_api_Core_2 : fieldOff Tryz.prog 44 2 = some 2 := by kernel_rfl
theorem fo_api_Core_3 : fieldOff Tryz.prog 44 3 = some 3 := by kernel_rfl
theorem fo_api_Core_4 : fieldOff Tryz.prog 44 4 = some 4 := by kernel_rfl
theorem fo_api_Core_5 : fieldOff Tryz.prog 44 5 = some 5 := by kernel_rfl
theorem fi_api_Core_0 (l : List AV) : fieldA Tryz.prog 44 (.agg l) 0 = partA Tryz.prog 9 l 0 := by kernel_rfl
theorem fi_api_Core_1 (l : List AV) : fieldA Tryz.prog 44 (.agg l) 1 = partA Tryz.prog 3 l 1 := by kernel_rfl
theorem fi_api_Core_2 (l : List AV) : fieldA Tryz.prog 44 (.agg l) 2 = partA Tryz.prog 3 l 2 := by kernel_rfl
theorem fi_api_Core_3 (l : List AV) : fieldA Tryz.prog 44 (.agg l) 3 = partA Tryz.prog 3 l 3 := by kernel_rfl
theorem fi_api_Core_4 (l : List AV) : fieldA Tryz.prog 44 (.agg l) 4 = partA Tryz.prog 3 l 4 := by kernel_rfl
theorem fi_api_Core_5 (l : List AV) : fieldA Tryz.prog 44 (.agg l) 5 = partA Tryz.prog 42 l 5 := by kernel_rfl
theorem st_api_Core : StT Tryz.prog 44 [(0, 1), (1, 1), (2, 1), (3, 1), (4, 1), (5, 1)] [.str [], .int .i64 0, .int .i64 0, .int .i64 0, .int .i64 0, .nils] := ⟨⟨_, Tryz.underlying44, by kernel_rfl, by kernel_rfl⟩, ze_api_Core⟩
theorem tk_A2_int : tk Tryz.prog 177 = .agg 2 := by kernel_rfl
theorem sz_A2_int : sizeA Tryz.prog 177 = some 2 := by kernel_rfl
theorem ze_A2_int : zeroOf Tryz.prog 177 = some [.int .i64 0, .int .i64 0] := by kernel_rfl
theorem ce_A2_int : Tryz.prog.cellsOf 177 = 2 := by kernel_rfl
theorem tk_S_int : tk Tryz.prog 54 = .one := by kernel_rfl
theorem sz_S_int : sizeA Tryz.prog 54 = some 1 := by kernel_rfl
theorem ze_S_int : zeroOf Tryz.prog 54 = some [.nils] := by kernel_rfl
theorem ce_S_int : Tryz.prog.cellsOf 54 = 1 := by kernel_rfl
theorem un_S_int : Tryz.prog.underlying 54 = some (.slice 3) := by kernel_rfl
theorem el_S_int : elemOfA Tryz.prog 54 = some 1 := by kernel_rfl
theorem sl_S_api_Core : SlT Tryz.prog 42 44 6 := ⟨un_S_api_Core, by kernel_rfl, ⟨_, ze_api_Core, rfl⟩, by kernel_rfl, by decide, by decide +kernel⟩
theorem sl_S_int : SlT Tryz.prog 54 3 1 := ⟨un_S_int, by kernel_rfl, ⟨_, ze_int, rfl⟩, by kernel_rfl, by decide, by decide +kernel⟩
end Go.Proofs.YtiknomepbklibaaGreatDoor
