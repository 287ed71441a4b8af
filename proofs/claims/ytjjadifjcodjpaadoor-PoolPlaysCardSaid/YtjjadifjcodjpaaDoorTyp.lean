/-
  Facts on the program's types.
-/
import Derived.Test.YtjjadifjcodjpaaDoorTyg
import Derived.Test.YtjjadifjcodjpaaDoorProg
namespace Go.Proofs.YtjjadifjcodjpaaDoor
open Go
set_option maxRecDepth 100000

theorem tk_S_S_int : tk Tryd.prog 23 = .one := by kernel_rfl
theorem sz_S_S_int : sizeA Tryd.prog 23 = some 1 := by kernel_rfl
theorem ze_S_S_int : zeroOf Tryd.prog 23 = some [.nils] := by kernel_rfl
theorem ce_S_S_int : Tryd.prog.cellsOf 23 = 1 := by kernel_rfl
theorem un_S_S_int : Tryd.prog.underlying 23 = some (.slice 22) := by kernel_rfl
theorem el_S_S_int : elemOfA Tryd.prog 23 = some 1 := by kernel_rfl
theorem tk_P_pool_Pool : tk Tryd.prog 25 = .one := by kernel_rfl
theorem sz_P_pool_Pool : sizeA Tryd.prog 25 = some 1 := by kernel_rfl
theorem ze_P_pool_Pool : zeroOf Tryd.prog 25 = some [.nilp] := by kernel_rfl
theorem ce_P_pool_Pool : Tryd.prog.cellsOf 25 = 1 := by kernel_rfl
theorem un_P_pool_Pool : Tryd.prog.underlying 25 = some (.pointer 42) := by kernel_rfl
theorem tk_P_sibylref15_Pool : tk Tryd.prog 32 = .one := by kernel_rfl
theorem sz_P_sibylref15_Pool : sizeA Tryd.prog 32 = some 1 := by kernel_rfl
theorem ze_P_sibylref15_Pool : zeroOf Tryd.prog 32 = some [.nilp] := by kernel_rfl
theorem ce_P_sibylref15_Pool : Tryd.prog.cellsOf 32 = 1 := by kernel_rfl
theorem un_P_sibylref15_Pool : Tryd.prog.underlying 32 = some (.pointer 34) := by kernel_rfl
theorem tk_sibylref15_Pool : tk Tryd.prog 34 = .agg 1 := by kernel_rfl
theorem sz_sibylref15_Pool : sizeA Tryd.prog 34 = some 1 := by kernel_rfl
theorem ze_sibylref15_Pool : zeroOf Tryd.prog 34 = some [.nils] := by kernel_rfl
theorem ce_sibylref15_Pool : Tryd.prog.cellsOf 34 = 1 := by kernel_rfl
theorem fo_sibylref15_Pool_0 : fieldOff Tryd.prog 34 0 = some 0 := by kernel_rfl
theorem fi_sibylref15_Pool_0 (l : List AV) : fieldA Tryd.prog 34 (.agg l) 0 = partA Tryd.prog 23 l 0 := by kernel_rfl
theorem st_sibylref15_Pool : StT Tryd.prog 34 [(0, 1)] [.nils] := ⟨⟨_, Tryd.underlying34, by kernel_rfl, by kernel_rfl⟩, ze_sibylref15_Pool⟩
theorem tk_M_string_int : tk Tryd.prog 40 = .one := by kernel_rfl
theorem sz_M_string_int : sizeA Tryd.prog 40 = some 1 := by kernel_rfl
theorem ze_M_string_int : zeroOf Tryd.prog 40 = some [.nilm] := by kernel_rfl
theorem ce_M_string_int : Tryd.prog.cellsOf 40 = 1 := by kernel_rfl
theorem tk_pool_Pool : tk Tryd.prog 42 = .agg 2 := by kernel_rfl
theorem sz_pool_Pool : sizeA Tryd.prog 42 = some 2 := by kernel_rfl
theorem ze_pool_Pool : zeroOf Tryd.prog 42 = some [.nils, .nilm] := by kernel_rfl
theorem ce_pool_Pool : Tryd.prog.cellsOf 42 = 2 := by kernel_rfl
theorem fo_pool_Pool_0 : fieldOff Tryd.prog 42 0 = some 0 := by kernel_rfl
theorem fo_pool_Pool_1 : fieldOff Tryd.prog 42 1 = some 1 := by kernel_rfl
theorem fi_pool_Pool_0 (l : List AV) : fieldA Tryd.prog 42 (.agg l) 0 = partA Tryd.prog 23 l 0 := by kernel_rfl
theorem fi_pool_Pool_1 (l : List AV) : fieldA Tryd.prog 42 (.agg l) 1 = partA Tryd.prog 40 l 1 := by kernel_rfl
theorem st_pool_Pool : StT Tryd.prog 42 [(0, 1), (1, 1)] [.nils, .nilm] := ⟨⟨_, Tryd.underlying42, by kernel_rfl, by kernel_rfl⟩, ze_pool_Pool⟩
theorem sl_S_S_int : SlT Tryd.prog 23 22 1 := ⟨un_S_S_int, by kernel_rfl, ⟨_, ze_S_int, rfl⟩, by kernel_rfl, by decide, by decide +kernel⟩
theorem un_M_string_int : Tryd.prog.underlying 40 = some (.map 9 3) := by kernel_rfl
end Go.Proofs.YtjjadifjcodjpaaDoor
