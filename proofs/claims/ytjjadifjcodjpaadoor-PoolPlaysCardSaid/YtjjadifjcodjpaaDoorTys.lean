/-
  Facts on the program's types.
-/
import Derived.Test.YtjjadifjcodjpaaDoorSy2
import Derived.Test.YtjjadifjcodjpaaDoorProg
namespace Go.Proofs.YtjjadifjcodjpaaDoor
open Go
set_option maxRecDepth 100000

theorem tk_int64 : tk Tryd.prog 2 = .one := by kernel_rfl
theorem sz_int64 : sizeA Tryd.prog 2 = some 1 := by kernel_rfl
theorem ze_int64 : zeroOf Tryd.prog 2 = some [.int .i64 0] := by kernel_rfl
theorem ce_int64 : Tryd.prog.cellsOf 2 = 1 := by kernel_rfl
theorem un_int64 : Tryd.prog.underlying 2 = some (.int .i64) := by kernel_rfl
theorem tk_int : tk Tryd.prog 3 = .one := by kernel_rfl
theorem sz_int : sizeA Tryd.prog 3 = some 1 := by kernel_rfl
theorem ze_int : zeroOf Tryd.prog 3 = some [.int .i64 0] := by kernel_rfl
theorem ce_int : Tryd.prog.cellsOf 3 = 1 := by kernel_rfl
theorem un_int : Tryd.prog.underlying 3 = some (.int .i64) := by kernel_rfl
theorem tk_bool : tk Tryd.prog 4 = .one := by kernel_rfl
theorem sz_bool : sizeA Tryd.prog 4 = some 1 := by kernel_rfl
theorem ze_bool : zeroOf Tryd.prog 4 = some [.bool false] := by kernel_rfl
theorem ce_bool : Tryd.prog.cellsOf 4 = 1 := by kernel_rfl
theorem un_bool : Tryd.prog.underlying 4 = some (.bool) := by kernel_rfl
theorem tk_uint8 : tk Tryd.prog 5 = .one := by kernel_rfl
theorem sz_uint8 : sizeA Tryd.prog 5 = some 1 := by kernel_rfl
theorem ze_uint8 : zeroOf Tryd.prog 5 = some [.int .u8 0] := by kernel_rfl
theorem ce_uint8 : Tryd.prog.cellsOf 5 = 1 := by kernel_rfl
theorem un_uint8 : Tryd.prog.underlying 5 = some (.int .u8) := by kernel_rfl
theorem tk_string : tk Tryd.prog 9 = .one := by kernel_rfl
theorem sz_string : sizeA Tryd.prog 9 = some 1 := by kernel_rfl
theorem ze_string : zeroOf Tryd.prog 9 = some [.str []] := by kernel_rfl
theorem ce_string : Tryd.prog.cellsOf 9 = 1 := by kernel_rfl
theorem un_string : Tryd.prog.underlying 9 = some (.string) := by kernel_rfl
theorem tk_uintptr : tk Tryd.prog 12 = .one := by kernel_rfl
theorem sz_uintptr : sizeA Tryd.prog 12 = some 1 := by kernel_rfl
theorem ze_uintptr : zeroOf Tryd.prog 12 = some [.int .u64 0] := by kernel_rfl
theorem ce_uintptr : Tryd.prog.cellsOf 12 = 1 := by kernel_rfl
theorem un_uintptr : Tryd.prog.underlying 12 = some (.int .u64) := by kernel_rfl
theorem tk_int32 : tk Tryd.prog 21 = .one := by kernel_rfl
theorem sz_int32 : sizeA Tryd.prog 21 = some 1 := by kernel_rfl
theorem ze_int32 : zeroOf Tryd.prog 21 = some [.int .i32 0] := by kernel_rfl
theorem ce_int32 : Tryd.prog.cellsOf 21 = 1 := by kernel_rfl
theorem un_int32 : Tryd.prog.underlying 21 = some (.int .i32) := by kernel_rfl
theorem tk_uint : tk Tryd.prog 48 = .one := by kernel_rfl
theorem sz_uint : sizeA Tryd.prog 48 = some 1 := by kernel_rfl
theorem ze_uint : zeroOf Tryd.prog 48 = some [.int .u64 0] := by kernel_rfl
theorem ce_uint : Tryd.prog.cellsOf 48 = 1 := by kernel_rfl
theorem un_uint : Tryd.prog.underlying 48 = some (.int .u64) := by kernel_rfl
theorem tk_slices_sortedHint : tk Tryd.prog 52 = .one := by kernel_rfl
theorem sz_slices_sortedHint : sizeA Tryd.prog 52 = some 1 := by kernel_rfl
theorem ze_slices_sortedHint : zeroOf Tryd.prog 52 = some [.int .i64 0] := by kernel_rfl
theorem ce_slices_sortedHint : Tryd.prog.cellsOf 52 = 1 := by kernel_rfl
theorem un_slices_sortedHint : Tryd.prog.underlying 52 = some (.int .i64) := by kernel_rfl
theorem tk_uint32 : tk Tryd.prog 60 = .one := by kernel_rfl
theorem sz_uint32 : sizeA Tryd.prog 60 = some 1 := by kernel_rfl
theorem ze_uint32 : zeroOf Tryd.prog 60 = some [.int .u32 0] := by kernel_rfl
theorem ce_uint32 : Tryd.prog.cellsOf 60 = 1 := by kernel_rfl
theorem un_uint32 : Tryd.prog.underlying 60 = some (.int .u32) := by kernel_rfl
theorem tk_uint64 : tk Tryd.prog 62 = .one := by kernel_rfl
theorem sz_uint64 : sizeA Tryd.prog 62 = some 1 := by kernel_rfl
theorem ze_uint64 : zeroOf Tryd.prog 62 = some [.int .u64 0] := by kernel_rfl
theorem ce_uint64 : Tryd.prog.cellsOf 62 = 1 := by kernel_rfl
theorem un_uint64 : Tryd.prog.underlying 62 = some (.int .u64) := by kernel_rfl
theorem tk_slices_xorshift : tk Tryd.prog 63 = .one := by kernel_rfl
theorem sz_slices_xorshift : sizeA Tryd.prog 63 = some 1 := by kernel_rfl
theorem ze_slices_xorshift : zeroOf Tryd.prog 63 = some [.int .u64 0] := by kernel_rfl
theorem ce_slices_xorshift : Tryd.prog.cellsOf 63 = 1 := by kernel_rfl
theorem un_slices_xorshift : Tryd.prog.underlying 63 = some (.int .u64) := by kernel_rfl
theorem tk_P_int : tk Tryd.prog 67 = .one := by kernel_rfl
theorem sz_P_int : sizeA Tryd.prog 67 = some 1 := by kernel_rfl
theorem ze_P_int : zeroOf Tryd.prog 67 = some [.nilp] := by kernel_rfl
theorem ce_P_int : Tryd.prog.cellsOf 67 = 1 := by kernel_rfl
theorem un_P_int : Tryd.prog.underlying 67 = some (.pointer 3) := by kernel_rfl
theorem tk_S_uint8 : tk Tryd.prog 49 = .one := by kernel_rfl
theorem sz_S_uint8 : sizeA Tryd.prog 49 = some 1 := by kernel_rfl
theorem ze_S_uint8 : zeroOf Tryd.prog 49 = some [.nils] := by kernel_rfl
theorem ce_S_uint8 : Tryd.prog.cellsOf 49 = 1 := by kernel_rfl
theorem un_S_uint8 : Tryd.prog.underlying 49 = some (.slice 5) := by kernel_rfl
theorem el_S_uint8 : elemOfA Tryd.prog 49 = some 1 := by kernel_rfl
theorem tk_P_slices_xorshift : tk Tryd.prog 71 = .one := by kernel_rfl
theorem sz_P_slices_xorshift : sizeA Tryd.prog 71 = some 1 := by kernel_rfl
theorem ze_P_slices_xorshift : zeroOf Tryd.prog 71 = some [.nilp] := by kernel_rfl
theorem ce_P_slices_xorshift : Tryd.prog.cellsOf 71 = 1 := by kernel_rfl
theorem un_P_slices_xorshift : Tryd.prog.underlying 71 = some (.pointer 63) := by kernel_rfl
theorem tk_P_uint8 : tk Tryd.prog 94 = .one := by kernel_rfl
theorem sz_P_uint8 : sizeA Tryd.prog 94 = some 1 := by kernel_rfl
theorem ze_P_uint8 : zeroOf Tryd.prog 94 = some [.nilp] := by kernel_rfl
theorem ce_P_uint8 : Tryd.prog.cellsOf 94 = 1 := by kernel_rfl
theorem un_P_uint8 : Tryd.prog.underlying 94 = some (.pointer 5) := by kernel_rfl
theorem sl_S_uint8 : SlT Tryd.prog 49 5 1 := ⟨un_S_uint8, by kernel_rfl, ⟨_, ze_uint8, rfl⟩, by kernel_rfl, by decide, by decide +kernel⟩
end Go.Proofs.YtjjadifjcodjpaaDoor
