/-
  Facts on the program's types.
-/
import Derived.Test.YtiknomepbklibaaDoorProg
import Derived.Test.YtiknomepbklibaaDoorQtTyg
namespace Go.Proofs.YtiknomepbklibaaDoor
open Go
set_option maxRecDepth 100000

theorem tk_S_bool : tk Tryd.prog 22 = .one := by kernel_rfl
theorem sz_S_bool : sizeA Tryd.prog 22 = some 1 := by kernel_rfl
theorem ce_S_bool : Tryd.prog.cellsOf 22 = 1 := by kernel_rfl
theorem un_S_bool : Tryd.prog.underlying 22 = some (.slice 4) := by kernel_rfl
theorem el_S_bool : elemOfA Tryd.prog 22 = some 1 := by kernel_rfl
theorem tk_api_Auto : tk Tryd.prog 25 = .agg 3 := by kernel_rfl
theorem sz_api_Auto : sizeA Tryd.prog 25 = some 3 := by kernel_rfl
theorem ze_api_Auto : zeroOf Tryd.prog 25 = some [.int .i64 0, .nils, .nils] := by kernel_rfl
theorem ce_api_Auto : Tryd.prog.cellsOf 25 = 3 := by kernel_rfl
theorem fo_api_Auto_0 : fieldOff Tryd.prog 25 0 = some 0 := by kernel_rfl
theorem fo_api_Auto_1 : fieldOff Tryd.prog 25 1 = some 1 := by kernel_rfl
theorem fo_api_Auto_2 : fieldOff Tryd.prog 25 2 = some 2 := by kernel_rfl
theorem fi_api_Auto_2 (l : List AV) : fieldA Tryd.prog 25 (.agg l) 2 = partA Tryd.prog 23 l 2 := by kernel_rfl
theorem st_api_Auto : StT Tryd.prog 25 [(0, 1), (1, 1), (2, 1)] [.int .i64 0, .nils, .nils] := ⟨⟨_, Tryd.underlying25, by kernel_rfl, by kernel_rfl⟩, ze_api_Auto⟩
theorem tk_P_meter_Meter : tk Tryd.prog 40 = .one := by kernel_rfl
theorem un_P_meter_Meter : Tryd.prog.underlying 40 = some (.pointer 68) := by kernel_rfl
theorem un_P_auto_DFA : Tryd.prog.underlying 27 = some (.pointer 58) := by kernel_rfl
theorem ze_meter_Meter : zeroOf Tryd.prog 68 = some [.int .i64 0, .bool false] := by kernel_rfl
theorem fo_meter_Meter_0 : fieldOff Tryd.prog 68 0 = some 0 := by kernel_rfl
theorem fo_meter_Meter_1 : fieldOff Tryd.prog 68 1 = some 1 := by kernel_rfl
theorem st_meter_Meter : StT Tryd.prog 68 [(0, 1), (1, 1)] [.int .i64 0, .bool false] := ⟨⟨_, Tryd.underlying68, by kernel_rfl, by kernel_rfl⟩, ze_meter_Meter⟩
theorem ze_proj_maker : zeroOf Tryd.prog 64 = some [.nilp, .nilp] := by kernel_rfl
theorem fo_proj_maker_0 : fieldOff Tryd.prog 64 0 = some 0 := by kernel_rfl
theorem fo_proj_maker_1 : fieldOff Tryd.prog 64 1 = some 1 := by kernel_rfl
theorem st_proj_maker : StT Tryd.prog 64 [(0, 1), (1, 1)] [.nilp, .nilp] := ⟨⟨_, Tryd.underlying64, by kernel_rfl, by kernel_rfl⟩, ze_proj_maker⟩
theorem tk_P_bdd_Store : tk Tryd.prog 56 = .one := by kernel_rfl
theorem un_P_bdd_Store : Tryd.prog.underlying 56 = some (.pointer 88) := by kernel_rfl
theorem ze_auto_DFA : zeroOf Tryd.prog 58 = some [.nils, .nils, .nilp] := by kernel_rfl
theorem fo_auto_DFA_0 : fieldOff Tryd.prog 58 0 = some 0 := by kernel_rfl
theorem fo_auto_DFA_1 : fieldOff Tryd.prog 58 1 = some 1 := by kernel_rfl
theorem fo_auto_DFA_2 : fieldOff Tryd.prog 58 2 = some 2 := by kernel_rfl
theorem st_auto_DFA : StT Tryd.prog 58 [(0, 1), (1, 1), (2, 1)] [.nils, .nils, .nilp] := ⟨⟨_, Tryd.underlying58, by kernel_rfl, by kernel_rfl⟩, ze_auto_DFA⟩
theorem tk_S_bdd_node : tk Tryd.prog 86 = .one := by kernel_rfl
theorem sz_S_bdd_node : sizeA Tryd.prog 86 = some 1 := by kernel_rfl
theorem un_S_bdd_node : Tryd.prog.underlying 86 = some (.slice 91) := by kernel_rfl
theorem el_S_bdd_node : elemOfA Tryd.prog 86 = some 1 := by kernel_rfl
theorem tk_M_bdd_node_int : tk Tryd.prog 85 = .one := by kernel_rfl
theorem ze_bdd_Store : zeroOf Tryd.prog 88 = some [.int .i64 0, .nils, .nilm] := by kernel_rfl
theorem fo_bdd_Store_0 : fieldOff Tryd.prog 88 0 = some 0 := by kernel_rfl
theorem fo_bdd_Store_1 : fieldOff Tryd.prog 88 1 = some 1 := by kernel_rfl
theorem fo_bdd_Store_2 : fieldOff Tryd.prog 88 2 = some 2 := by kernel_rfl
theorem st_bdd_Store : StT Tryd.prog 88 [(0, 1), (1, 1), (2, 1)] [.int .i64 0, .nils, .nilm] := ⟨⟨_, Tryd.underlying88, by kernel_rfl, by kernel_rfl⟩, ze_bdd_Store⟩
theorem tk_bdd_node : tk Tryd.prog 91 = .one := by kernel_rfl
theorem ze_bdd_node : zeroOf Tryd.prog 91 = some [.nili] := by kernel_rfl
theorem ze_bdd_leaf : zeroOf Tryd.prog 117 = some [.int .i64 0] := by kernel_rfl
theorem fo_bdd_leaf_0 : fieldOff Tryd.prog 117 0 = some 0 := by kernel_rfl
theorem st_bdd_leaf : StT Tryd.prog 117 [(0, 1)] [.int .i64 0] := ⟨⟨_, Tryd.underlying117, by kernel_rfl, by kernel_rfl⟩, ze_bdd_leaf⟩
theorem sz_bdd_fork : sizeA Tryd.prog 119 = some 3 := by kernel_rfl
theorem ze_bdd_fork : zeroOf Tryd.prog 119 = some [.int .i64 0, .int .i64 0, .int .i64 0] := by kernel_rfl
theorem fo_bdd_fork_0 : fieldOff Tryd.prog 119 0 = some 0 := by kernel_rfl
theorem fo_bdd_fork_1 : fieldOff Tryd.prog 119 1 = some 1 := by kernel_rfl
theorem fo_bdd_fork_2 : fieldOff Tryd.prog 119 2 = some 2 := by kernel_rfl
theorem st_bdd_fork : StT Tryd.prog 119 [(0, 1), (1, 1), (2, 1)] [.int .i64 0, .int .i64 0, .int .i64 0] := ⟨⟨_, Tryd.underlying119, by kernel_rfl, by kernel_rfl⟩, ze_bdd_fork⟩
theorem sl_S_bool : SlT Tryd.prog 22 4 1 := ⟨un_S_bool, by kernel_rfl, ⟨_, ze_bool, rfl⟩, by kernel_rfl, by decide, by decide +kernel⟩
theorem sl_S_bdd_node : SlT Tryd.prog 86 91 1 := ⟨un_S_bdd_node, by kernel_rfl, ⟨_, ze_bdd_node, rfl⟩, by kernel_rfl, by decide, by decide +kernel⟩
end Go.Proofs.YtiknomepbklibaaDoor
