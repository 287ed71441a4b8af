/-
  Facts on the program's types.
-/
import Derived.Test.YtiknomepbklibaaGreatDoorSy2
import Derived.Test.YtiknomepbklibaaGreatDoorProg
namespace Go.Proofs.YtiknomepbklibaaGreatDoor
open Go
set_option maxRecDepth 100000

theorem tk_int64 : tk Tryz.prog 2 = .one := by kernel_rfl
theorem sz_int64 : sizeA Tryz.prog 2 = some 1 := by kernel_rfl
theorem ze_int64 : zeroOf Tryz.prog 2 = some [.int .i64 0] := by kernel_rfl
theorem ce_int64 : Tryz.prog.cellsOf 2 = 1 := by kernel_rfl
theorem un_int64 : Tryz.prog.underlying 2 = some (.int .i64) := by kernel_rfl
theorem tk_int : tk Tryz.prog 3 = .one := by kernel_rfl
theorem sz_int : sizeA Tryz.prog 3 = some 1 := by kernel_rfl
theorem ze_int : zeroOf Tryz.prog 3 = some [.int .i64 0] := by kernel_rfl
theorem ce_int : Tryz.prog.cellsOf 3 = 1 := by kernel_rfl
theorem un_int : Tryz.prog.underlying 3 = some (.int .i64) := by kernel_rfl
theorem tk_bool : tk Tryz.prog 4 = .one := by kernel_rfl
theorem sz_bool : sizeA Tryz.prog 4 = some 1 := by kernel_rfl
theorem ze_bool : zeroOf Tryz.prog 4 = some [.bool false] := by kernel_rfl
theorem ce_bool : Tryz.prog.cellsOf 4 = 1 := by kernel_rfl
theorem un_bool : Tryz.prog.underlying 4 = some (.bool) := by kernel_rfl
theorem tk_uint8 : tk Tryz.prog 5 = .one := by kernel_rfl
theorem sz_uint8 : sizeA Tryz.prog 5 = some 1 := by kernel_rfl
theorem ze_uint8 : zeroOf Tryz.prog 5 = some [.int .u8 0] := by kernel_rfl
theorem ce_uint8 : Tryz.prog.cellsOf 5 = 1 := by kernel_rfl
theorem un_uint8 : Tryz.prog.underlying 5 = some (.int .u8) := by kernel_rfl
theorem tk_string : tk Tryz.prog 9 = .one := by kernel_rfl
theorem sz_string : sizeA Tryz.prog 9 = some 1 := by kernel_rfl
theorem ze_string : zeroOf Tryz.prog 9 = some [.str []] := by kernel_rfl
theorem ce_string : Tryz.prog.cellsOf 9 = 1 := by kernel_rfl
theorem un_string : Tryz.prog.underlying 9 = some (.string) := by kernel_rfl
theorem tk_uintptr : tk Tryz.prog 12 = .one := by kernel_rfl
theorem sz_uintptr : sizeA Tryz.prog 12 = some 1 := by kernel_rfl
theorem ze_uintptr : zeroOf Tryz.prog 12 = some [.int .u64 0] := by kernel_rfl
theorem ce_uintptr : Tryz.prog.cellsOf 12 = 1 := by kernel_rfl
theorem un_uintptr : Tryz.prog.underlying 12 = some (.int .u64) := by kernel_rfl
theorem tk_int32 : tk Tryz.prog 21 = .one := by kernel_rfl
theorem sz_int32 : sizeA Tryz.prog 21 = some 1 := by kernel_rfl
theorem ze_int32 : zeroOf Tryz.prog 21 = some [.int .i32 0] := by kernel_rfl
theorem ce_int32 : Tryz.prog.cellsOf 21 = 1 := by kernel_rfl
theorem un_int32 : Tryz.prog.underlying 21 = some (.int .i32) := by kernel_rfl
theorem tk_S_string : tk Tryz.prog 142 = .one := by kernel_rfl
theorem sz_S_string : sizeA Tryz.prog 142 = some 1 := by kernel_rfl
theorem ze_S_string : zeroOf Tryz.prog 142 = some [.nils] := by kernel_rfl
theorem ce_S_string : Tryz.prog.cellsOf 142 = 1 := by kernel_rfl
theorem un_S_string : Tryz.prog.underlying 142 = some (.slice 9) := by kernel_rfl
theorem el_S_string : elemOfA Tryz.prog 142 = some 1 := by kernel_rfl
theorem tk_uint : tk Tryz.prog 58 = .one := by kernel_rfl
theorem sz_uint : sizeA Tryz.prog 58 = some 1 := by kernel_rfl
theorem ze_uint : zeroOf Tryz.prog 58 = some [.int .u64 0] := by kernel_rfl
theorem ce_uint : Tryz.prog.cellsOf 58 = 1 := by kernel_rfl
theorem un_uint : Tryz.prog.underlying 58 = some (.int .u64) := by kernel_rfl
theorem tk_api_Errno : tk Tryz.prog 30 = .one := by kernel_rfl
theorem sz_api_Errno : sizeA Tryz.prog 30 = some 1 := by kernel_rfl
theorem ze_api_Errno : zeroOf Tryz.prog 30 = some [.int .i64 0] := by kernel_rfl
theorem ce_api_Errno : Tryz.prog.cellsOf 30 = 1 := by kernel_rfl
theorem un_api_Errno : Tryz.prog.underlying 30 = some (.int .i64) := by kernel_rfl
theorem tk_slices_sortedHint : tk Tryz.prog 146 = .one := by kernel_rfl
theorem sz_slices_sortedHint : sizeA Tryz.prog 146 = some 1 := by kernel_rfl
theorem ze_slices_sortedHint : zeroOf Tryz.prog 146 = some [.int .i64 0] := by kernel_rfl
theorem ce_slices_sortedHint : Tryz.prog.cellsOf 146 = 1 := by kernel_rfl
theorem un_slices_sortedHint : Tryz.prog.underlying 146 = some (.int .i64) := by kernel_rfl
theorem tk_uint32 : tk Tryz.prog 154 = .one := by kernel_rfl
theorem sz_uint32 : sizeA Tryz.prog 154 = some 1 := by kernel_rfl
theorem ze_uint32 : zeroOf Tryz.prog 154 = some [.int .u32 0] := by kernel_rfl
theorem ce_uint32 : Tryz.prog.cellsOf 154 = 1 := by kernel_rfl
theorem un_uint32 : Tryz.prog.underlying 154 = some (.int .u32) := by kernel_rfl
theorem tk_uint64 : tk Tryz.prog 156 = .one := by kernel_rfl
theorem sz_uint64 : sizeA Tryz.prog 156 = some 1 := by kernel_rfl
theorem ze_uint64 : zeroOf Tryz.prog 156 = some [.int .u64 0] := by kernel_rfl
theorem ce_uint64 : Tryz.prog.cellsOf 156 = 1 := by kernel_rfl
theorem un_uint64 : Tryz.prog.underlying 156 = some (.int .u64) := by kernel_rfl
theorem tk_slices_xorshift : tk Tryz.prog 185 = .one := by kernel_rfl
theorem sz_slices_xorshift : sizeA Tryz.prog 185 = some 1 := by kernel_rfl
theorem ze_slices_xorshift : zeroOf Tryz.prog 185 = some [.int .u64 0] := by kernel_rfl
theorem ce_slices_xorshift : Tryz.prog.cellsOf 185 = 1 := by kernel_rfl
theorem un_slices_xorshift : Tryz.prog.underlying 185 = some (.int .u64) := by kernel_rfl
theorem tk_P_int : tk Tryz.prog 189 = .one := by kernel_rfl
theorem sz_P_int : sizeA Tryz.prog 189 = some 1 := by kernel_rfl
theorem ze_P_int : zeroOf Tryz.prog 189 = some [.nilp] := by kernel_rfl
theorem ce_P_int : Tryz.prog.cellsOf 189 = 1 := by kernel_rfl
theorem un_P_int : Tryz.prog.underlying 189 = some (.pointer 3) := by kernel_rfl
theorem tk_S_uint8 : tk Tryz.prog 143 = .one := by kernel_rfl
theorem sz_S_uint8 : sizeA Tryz.prog 143 = some 1 := by kernel_rfl
theorem ze_S_uint8 : zeroOf Tryz.prog 143 = some [.nils] := by kernel_rfl
theorem ce_S_uint8 : Tryz.prog.cellsOf 143 = 1 := by kernel_rfl
theorem un_S_uint8 : Tryz.prog.underlying 143 = some (.slice 5) := by kernel_rfl
theorem el_S_uint8 : elemOfA Tryz.prog 143 = some 1 := by kernel_rfl
theorem tk_P_slices_xorshift : tk Tryz.prog 204 = .one := by kernel_rfl
theorem sz_P_slices_xorshift : sizeA Tryz.prog 204 = some 1 := by kernel_rfl
theorem ze_P_slices_xorshift : zeroOf Tryz.prog 204 = some [.nilp] := by kernel_rfl
theorem ce_P_slices_xorshift : Tryz.prog.cellsOf 204 = 1 := by kernel_rfl
theorem un_P_slices_xorshift : Tryz.prog.underlying 204 = some (.pointer 185) := by kernel_rfl
theorem tk_P_uint8 : tk Tryz.prog 232 = .one := by kernel_rfl
theorem sz_P_uint8 : sizeA Tryz.prog 232 = some 1 := by kernel_rfl
theorem ze_P_uint8 : zeroOf Tryz.prog 232 = some [.nilp] := by kernel_rfl
theorem ce_P_uint8 : Tryz.prog.cellsOf 232 = 1 := by kernel_rfl
theorem un_P_uint8 : Tryz.prog.underlying 232 = some (.pointer 5) := by kernel_rfl
theorem sl_S_string : SlT Tryz.prog 142 9 1 := ⟨un_S_string, by kernel_rfl, ⟨_, ze_string, rfl⟩, by kernel_rfl, by decide, by decide +kernel⟩
theorem sl_S_uint8 : SlT Tryz.prog 143 5 1 := ⟨un_S_uint8, by kernel_rfl, ⟨_, ze_uint8, rfl⟩, by kernel_rfl, by decide, by decide +kernel⟩
end Go.Proofs.YtiknomepbklibaaGreatDoor
