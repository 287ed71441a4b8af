/-
  Facts on the program's types.
-/
import Derived.Test.YtiknomepbklibaaGreatDoorTys
import Derived.Test.YtiknomepbklibaaGreatDoorTyg
import Derived.Test.YtiknomepbklibaaGreatDoorProg
namespace Go.Proofs.YtiknomepbklibaaGreatDoor
open Go
set_option maxRecDepth 100000

theorem tk_S_bool : tk Tryz.prog 22 = .one := by kernel_rfl
theorem sz_S_bool : sizeA Tryz.prog 22 = some 1 := by kernel_rfl
theorem ze_S_bool : zeroOf Tryz.prog 22 = some [.nils] := by kernel_rfl
theorem ce_S_bool : Tryz.prog.cellsOf 22 = 1 := by kernel_rfl
theorem un_S_bool : Tryz.prog.underlying 22 = some (.slice 4) := by kernel_rfl
theorem el_S_bool : elemOfA Tryz.prog 22 = some 1 := by kernel_rfl
theorem tk_api_Auto : tk Tryz.prog 25 = .agg 3 := by kernel_rfl
theorem sz_api_Auto : sizeA Tryz.prog 25 = some 3 := by kernel_rfl
theorem ze_api_Auto : zeroOf Tryz.prog 25 = some [.int .i64 0, .nils, .nils] := by kernel_rfl
theorem ce_api_Auto : Tryz.prog.cellsOf 25 = 3 := by kernel_rfl
theorem fo_api_Auto_0 : fieldOff Tryz.prog 25 0 = some 0 := by kernel_rfl
theorem fo_api_Auto_1 : fieldOff Tryz.prog 25 1 = some 1 := by kernel_rfl
theorem fo_api_Auto_2 : fieldOff Tryz.prog 25 2 = some 2 := by kernel_rfl
theorem fi_api_Auto_0 (l : List AV) : fieldA Tryz.prog 25 (.agg l) 0 = partA Tryz.prog 3 l 0 := by kernel_rfl
theorem fi_api_Auto_1 (l : List AV) : fieldA Tryz.prog 25 (.agg l) 1 = partA Tryz.prog 22 l 1 := by kernel_rfl
theorem fi_api_Auto_2 (l : List AV) : fieldA Tryz.prog 25 (.agg l) 2 = partA Tryz.prog 23 l 2 := by kernel_rfl
theorem st_api_Auto : StT Tryz.prog 25 [(0, 1), (1, 1), (2, 1)] [.int .i64 0, .nils, .nils] := ⟨⟨_, Tryz.underlying25, by kernel_rfl, by kernel_rfl⟩, ze_api_Auto⟩
theorem tk_P_meter_Meter : tk Tryz.prog 27 = .one := by kernel_rfl
theorem sz_P_meter_Meter : sizeA Tryz.prog 27 = some 1 := by kernel_rfl
theorem ze_P_meter_Meter : zeroOf Tryz.prog 27 = some [.nilp] := by kernel_rfl
theorem ce_P_meter_Meter : Tryz.prog.cellsOf 27 = 1 := by kernel_rfl
theorem un_P_meter_Meter : Tryz.prog.underlying 27 = some (.pointer 65) := by kernel_rfl
theorem tk_P_auto_DFA : tk Tryz.prog 29 = .one := by kernel_rfl
theorem sz_P_auto_DFA : sizeA Tryz.prog 29 = some 1 := by kernel_rfl
theorem ze_P_auto_DFA : zeroOf Tryz.prog 29 = some [.nilp] := by kernel_rfl
theorem ce_P_auto_DFA : Tryz.prog.cellsOf 29 = 1 := by kernel_rfl
theorem un_P_auto_DFA : Tryz.prog.underlying 29 = some (.pointer 86) := by kernel_rfl
theorem tk_P_sibylref13_Meter : tk Tryz.prog 36 = .one := by kernel_rfl
theorem sz_P_sibylref13_Meter : sizeA Tryz.prog 36 = some 1 := by kernel_rfl
theorem ze_P_sibylref13_Meter : zeroOf Tryz.prog 36 = some [.nilp] := by kernel_rfl
theorem ce_P_sibylref13_Meter : Tryz.prog.cellsOf 36 = 1 := by kernel_rfl
theorem un_P_sibylref13_Meter : Tryz.prog.underlying 36 = some (.pointer 105) := by kernel_rfl
theorem tk_meter_Meter : tk Tryz.prog 65 = .agg 2 := by kernel_rfl
theorem sz_meter_Meter : sizeA Tryz.prog 65 = some 2 := by kernel_rfl
theorem ze_meter_Meter : zeroOf Tryz.prog 65 = some [.int .i64 0, .bool false] := by kernel_rfl
theorem ce_meter_Meter : Tryz.prog.cellsOf 65 = 2 := by kernel_rfl
theorem fo_meter_Meter_0 : fieldOff Tryz.prog 65 0 = some 0 := by kernel_rfl
theorem fo_meter_Meter_1 : fieldOff Tryz.prog 65 1 = some 1 := by kernel_rfl
theorem fi_meter_Meter_0 (l : List AV) : fieldA Tryz.prog 65 (.agg l) 0 = partA Tryz.prog 3 l 0 := by kernel_rfl
theorem fi_meter_Meter_1 (l : List AV) : fieldA Tryz.prog 65 (.agg l) 1 = partA Tryz.prog 4 l 1 := by kernel_rfl
theorem st_meter_Meter : StT Tryz.prog 65 [(0, 1), (1, 1)] [.int .i64 0, .bool false] := ⟨⟨_, Tryz.underlying65, by kernel_rfl, by kernel_rfl⟩, ze_meter_Meter⟩
theorem tk_P_proj_maker : tk Tryz.prog 67 = .one := by kernel_rfl
theorem sz_P_proj_maker : sizeA Tryz.prog 67 = some 1 := by kernel_rfl
theorem ze_P_proj_maker : zeroOf Tryz.prog 67 = some [.nilp] := by kernel_rfl
theorem ce_P_proj_maker : Tryz.prog.cellsOf 67 = 1 := by kernel_rfl
theorem un_P_proj_maker : Tryz.prog.underlying 67 = some (.pointer 71) := by kernel_rfl
theorem tk_proj_maker : tk Tryz.prog 71 = .agg 2 := by kernel_rfl
theorem sz_proj_maker : sizeA Tryz.prog 71 = some 2 := by kernel_rfl
theorem ze_proj_maker : zeroOf Tryz.prog 71 = some [.nilp, .nilp] := by kernel_rfl
theorem ce_proj_maker : Tryz.prog.cellsOf 71 = 2 := by kernel_rfl
theorem fo_proj_maker_0 : fieldOff Tryz.prog 71 0 = some 0 := by kernel_rfl
theorem fo_proj_maker_1 : fieldOff Tryz.prog 71 1 = some 1 := by kernel_rfl
theorem fi_proj_maker_0 (l : List AV) : fieldA Tryz.prog 71 (.agg l) 0 = partA Tryz.prog 68 l 0 := by kernel_rfl
theorem fi_proj_maker_1 (l : List AV) : fieldA Tryz.prog 71 (.agg l) 1 = partA Tryz.prog 27 l 1 := by kernel_rfl
theorem st_proj_maker : StT Tryz.prog 71 [(0, 1), (1, 1)] [.nilp, .nilp] := ⟨⟨_, Tryz.underlying71, by kernel_rfl, by kernel_rfl⟩, ze_proj_maker⟩
theorem tk_sibylref20_pair : tk Tryz.prog 77 = .agg 2 := by kernel_rfl
theorem sz_sibylref20_pair : sizeA Tryz.prog 77 = some 2 := by kernel_rfl
theorem ze_sibylref20_pair : zeroOf Tryz.prog 77 = some [.int .i64 0, .int .i64 0] := by kernel_rfl
theorem ce_sibylref20_pair : Tryz.prog.cellsOf 77 = 2 := by kernel_rfl
theorem fo_sibylref20_pair_0 : fieldOff Tryz.prog 77 0 = some 0 := by kernel_rfl
theorem fo_sibylref20_pair_1 : fieldOff Tryz.prog 77 1 = some 1 := by kernel_rfl
theorem fi_sibylref20_pair_0 (l : List AV) : fieldA Tryz.prog 77 (.agg l) 0 = partA Tryz.prog 3 l 0 := by kernel_rfl
theorem fi_sibylref20_pair_1 (l : List AV) : fieldA Tryz.prog 77 (.agg l) 1 = partA Tryz.prog 3 l 1 := by kernel_rfl
theorem st_sibylref20_pair : StT Tryz.prog 77 [(0, 1), (1, 1)] [.int .i64 0, .int .i64 0] := ⟨⟨_, Tryz.underlying77, by kernel_rfl, by kernel_rfl⟩, ze_sibylref20_pair⟩
theorem tk_S_sibylref20_pair : tk Tryz.prog 78 = .one := by kernel_rfl
theorem sz_S_sibylref20_pair : sizeA Tryz.prog 78 = some 1 := by kernel_rfl
theorem ze_S_sibylref20_pair : zeroOf Tryz.prog 78 = some [.nils] := by kernel_rfl
theorem ce_S_sibylref20_pair : Tryz.prog.cellsOf 78 = 1 := by kernel_rfl
theorem un_S_sibylref20_pair : Tryz.prog.underlying 78 = some (.slice 77) := by kernel_rfl
theorem el_S_sibylref20_pair : elemOfA Tryz.prog 78 = some 2 := by kernel_rfl
theorem tk_P_bdd_Store : tk Tryz.prog 84 = .one := by kernel_rfl
theorem sz_P_bdd_Store : sizeA Tryz.prog 84 = some 1 := by kernel_rfl
theorem ze_P_bdd_Store : zeroOf Tryz.prog 84 = some [.nilp] := by kernel_rfl
theorem ce_P_bdd_Store : Tryz.prog.cellsOf 84 = 1 := by kernel_rfl
theorem un_P_bdd_Store : Tryz.prog.underlying 84 = some (.pointer 125) := by kernel_rfl
theorem tk_auto_DFA : tk Tryz.prog 86 = .agg 3 := by kernel_rfl
theorem sz_auto_DFA : sizeA Tryz.prog 86 = some 3 := by kernel_rfl
theorem ze_auto_DFA : zeroOf Tryz.prog 86 = some [.nils, .nils, .nilp] := by kernel_rfl
theorem ce_auto_DFA : Tryz.prog.cellsOf 86 = 3 := by kernel_rfl
theorem fo_auto_DFA_0 : fieldOff Tryz.prog 86 0 = some 0 := by kernel_rfl
theorem fo_auto_DFA_1 : fieldOff Tryz.prog 86 1 = some 1 := by kernel_rfl
theorem fo_auto_DFA_2 : fieldOff Tryz.prog 86 2 = some 2 := by kernel_rfl
theorem fi_auto_DFA_0 (l : List AV) : fieldA Tryz.prog 86 (.agg l) 0 = partA Tryz.prog 22 l 0 := by kernel_rfl
theorem fi_auto_DFA_1 (l : List AV) : fieldA Tryz.prog 86 (.agg l) 1 = partA Tryz.prog 54 l 1 := by kernel_rfl
theorem fi_auto_DFA_2 (l : List AV) : fieldA Tryz.prog 86 (.agg l) 2 = partA Tryz.prog 84 l 2 := by kernel_rfl
theorem st_auto_DFA : StT Tryz.prog 86 [(0, 1), (1, 1), (2, 1)] [.nils, .nils, .nilp] := ⟨⟨_, Tryz.underlying86, by kernel_rfl, by kernel_rfl⟩, ze_auto_DFA⟩
theorem tk_sibylref13_Meter : tk Tryz.prog 105 = .agg 2 := by kernel_rfl
theorem sz_sibylref13_Meter : sizeA Tryz.prog 105 = some 2 := by kernel_rfl
theorem ze_sibylref13_Meter : zeroOf Tryz.prog 105 = some [.int .i64 0, .bool false] := by kernel_rfl
theorem ce_sibylref13_Meter : Tryz.prog.cellsOf 105 = 2 := by kernel_rfl
theorem fo_sibylref13_Meter_0 : fieldOff Tryz.prog 105 0 = some 0 := by kernel_rfl
theorem fo_sibylref13_Meter_1 : fieldOff Tryz.prog 105 1 = some 1 := by kernel_rfl
theorem fi_sibylref13_Meter_0 (l : List AV) : fieldA Tryz.prog 105 (.agg l) 0 = partA Tryz.prog 3 l 0 := by kernel_rfl
theorem fi_sibylref13_Meter_1 (l : List AV) : fieldA Tryz.prog 105 (.agg l) 1 = partA Tryz.prog 4 l 1 := by kernel_rfl
theorem st_sibylref13_Meter : StT Tryz.prog 105 [(0, 1), (1, 1)] [.int .i64 0, .bool false] := ⟨⟨_, Tryz.underlying105, by kernel_rfl, by kernel_rfl⟩, ze_sibylref13_Meter⟩
theorem tk_P_sibylref26_Compiler : tk Tryz.prog 107 = .one := by kernel_rfl
theorem sz_P_sibylref26_Compiler : sizeA Tryz.prog 107 = some 1 := by kernel_rfl
theorem ze_P_sibylref26_Compiler : zeroOf Tryz.prog 107 = some [.nilp] := by kernel_rfl
theorem ce_P_sibylref26_Compiler : Tryz.prog.cellsOf 107 = 1 := by kernel_rfl
theorem un_P_sibylref26_Compiler : Tryz.prog.underlying 107 = some (.pointer 109) := by kernel_rfl
theorem tk_sibylref26_Compiler : tk Tryz.prog 109 = .agg 3 := by kernel_rfl
theorem sz_sibylref26_Compiler : sizeA Tryz.prog 109 = some 3 := by kernel_rfl
theorem ze_sibylref26_Compiler : zeroOf Tryz.prog 109 = some [.nilp, .bool false, .bool false] := by kernel_rfl
theorem ce_sibylref26_Compiler : Tryz.prog.cellsOf 109 = 3 := by kernel_rfl
theorem fo_sibylref26_Compiler_0 : fieldOff Tryz.prog 109 0 = some 0 := by kernel_rfl
theorem fo_sibylref26_Compiler_1 : fieldOff Tryz.prog 109 1 = some 1 := by kernel_rfl
theorem fo_sibylref26_Compiler_2 : fieldOff Tryz.prog 109 2 = some 2 := by kernel_rfl
theorem fi_sibylref26_Compiler_0 (l : List AV) : fieldA Tryz.prog 109 (.agg l) 0 = partA Tryz.prog 36 l 0 := by kernel_rfl
theorem fi_sibylref26_Compiler_1 (l : List AV) : fieldA Tryz.prog 109 (.agg l) 1 = partA Tryz.prog 4 l 1 := by kernel_rfl
theorem fi_sibylref26_Compiler_2 (l : List AV) : fieldA Tryz.prog 109 (.agg l) 2 = partA Tryz.prog 4 l 2 := by kernel_rfl
theorem st_sibylref26_Compiler : StT Tryz.prog 109 [(0, 1), (1, 1), (2, 1)] [.nilp, .bool false, .bool false] := ⟨⟨_, Tryz.underlying109, by kernel_rfl, by kernel_rfl⟩, ze_sibylref26_Compiler⟩
theorem tk_S_P_auto_DFA : tk Tryz.prog 111 = .one := by kernel_rfl
theorem sz_S_P_auto_DFA : sizeA Tryz.prog 111 = some 1 := by kernel_rfl
theorem ze_S_P_auto_DFA : zeroOf Tryz.prog 111 = some [.nils] := by kernel_rfl
theorem ce_S_P_auto_DFA : Tryz.prog.cellsOf 111 = 1 := by kernel_rfl
theorem un_S_P_auto_DFA : Tryz.prog.underlying 111 = some (.slice 29) := by kernel_rfl
theorem el_S_P_auto_DFA : elemOfA Tryz.prog 111 = some 1 := by kernel_rfl
theorem tk_S_bdd_node : tk Tryz.prog 122 = .one := by kernel_rfl
theorem sz_S_bdd_node : sizeA Tryz.prog 122 = some 1 := by kernel_rfl
theorem ze_S_bdd_node : zeroOf Tryz.prog 122 = some [.nils] := by kernel_rfl
theorem ce_S_bdd_node : Tryz.prog.cellsOf 122 = 1 := by kernel_rfl
theorem un_S_bdd_node : Tryz.prog.underlying 122 = some (.slice 132) := by kernel_rfl
theorem el_S_bdd_node : elemOfA Tryz.prog 122 = some 1 := by kernel_rfl
theorem tk_M_bdd_node_int : tk Tryz.prog 123 = .one := by kernel_rfl
theorem sz_M_bdd_node_int : sizeA Tryz.prog 123 = some 1 := by kernel_rfl
theorem ze_M_bdd_node_int : zeroOf Tryz.prog 123 = some [.nilm] := by kernel_rfl
theorem ce_M_bdd_node_int : Tryz.prog.cellsOf 123 = 1 := by kernel_rfl
theorem tk_bdd_Store : tk Tryz.prog 125 = .agg 3 := by kernel_rfl
theorem sz_bdd_Store : sizeA Tryz.prog 125 = some 3 := by kernel_rfl
theorem ze_bdd_Store : zeroOf Tryz.prog 125 = some [.int .i64 0, .nils, .nilm] := by kernel_rfl
theorem ce_bdd_Store : Tryz.prog.cellsOf 125 = 3 := by kernel_rfl
theorem fo_bdd_Store_0 : fieldOff Tryz.prog 125 0 = some 0 := by kernel_rfl
theorem fo_bdd_Store_1 : fieldOff Tryz.prog 125 1 = some 1 := by kernel_rfl
theorem fo_bdd_Store_2 : fieldOff Tryz.prog 125 2 = some 2 := by kernel_rfl
theorem fi_bdd_Store_0 (l : List AV) : fieldA Tryz.prog 125 (.agg l) 0 = partA Tryz.prog 3 l 0 := by kernel_rfl
theorem fi_bdd_Store_1 (l : List AV) : fieldA Tryz.prog 125 (.agg l) 1 = partA Tryz.prog 122 l 1 := by kernel_rfl
theorem fi_bdd_Store_2 (l : List AV) : fieldA Tryz.prog 125 (.agg l) 2 = partA Tryz.prog 123 l 2 := by kernel_rfl
theorem st_bdd_Store : StT Tryz.prog 125 [(0, 1), (1, 1), (2, 1)] [.int .i64 0, .nils, .nilm] := ⟨⟨_, Tryz.underlying125, by kernel_rfl, by kernel_rfl⟩, ze_bdd_Store⟩
theorem tk_bdd_node : tk Tryz.prog 132 = .one := by kernel_rfl
theorem sz_bdd_node : sizeA Tryz.prog 132 = some 1 := by kernel_rfl
theorem ze_bdd_node : zeroOf Tryz.prog 132 = some [.nili] := by kernel_rfl
theorem ce_bdd_node : Tryz.prog.cellsOf 132 = 1 := by kernel_rfl
theorem tk_M_int_int : tk Tryz.prog 141 = .one := by kernel_rfl
theorem sz_M_int_int : sizeA Tryz.prog 141 = some 1 := by kernel_rfl
theorem ze_M_int_int : zeroOf Tryz.prog 141 = some [.nilm] := by kernel_rfl
theorem ce_M_int_int : Tryz.prog.cellsOf 141 = 1 := by kernel_rfl
theorem tk_core_shape : tk Tryz.prog 164 = .agg 3 := by kernel_rfl
theorem sz_core_shape : sizeA Tryz.prog 164 = some 3 := by kernel_rfl
theorem ze_core_shape : zeroOf Tryz.prog 164 = some [.int .i64 0, .bool false, .int .i64 0] := by kernel_rfl
theorem ce_core_shape : Tryz.prog.cellsOf 164 = 3 := by kernel_rfl
theorem fo_core_shape_0 : fieldOff Tryz.prog 164 0 = some 0 := by kernel_rfl
theorem fo_core_shape_1 : fieldOff Tryz.prog 164 1 = some 1 := by kernel_rfl
theorem fo_core_shape_2 : fieldOff Tryz.prog 164 2 = some 2 := by kernel_rfl
theorem fi_core_shape_0 (l : List AV) : fieldA Tryz.prog 164 (.agg l) 0 = partA Tryz.prog 3 l 0 := by kernel_rfl
theorem fi_core_shape_1 (l : List AV) : fieldA Tryz.prog 164 (.agg l) 1 = partA Tryz.prog 4 l 1 := by kernel_rfl
theorem fi_core_shape_2 (l : List AV) : fieldA Tryz.prog 164 (.agg l) 2 = partA Tryz.prog 3 l 2 := by kernel_rfl
theorem st_core_shape : StT Tryz.prog 164 [(0, 1), (1, 1), (2, 1)] [.int .i64 0, .bool false, .int .i64 0] := ⟨⟨_, Tryz.underlying164, by kernel_rfl, by kernel_rfl⟩, ze_core_shape⟩
theorem tk_M_string_core_shape : tk Tryz.prog 166 = .one := by kernel_rfl
theorem sz_M_string_core_shape : sizeA Tryz.prog 166 = some 1 := by kernel_rfl
theorem ze_M_string_core_shape : zeroOf Tryz.prog 166 = some [.nilm] := by kernel_rfl
theorem ce_M_string_core_shape : Tryz.prog.cellsOf 166 = 1 := by kernel_rfl
theorem tk_A3_int : tk Tryz.prog 168 = .agg 3 := by kernel_rfl
theorem sz_A3_int : sizeA Tryz.prog 168 = some 3 := by kernel_rfl
theorem ze_A3_int : zeroOf Tryz.prog 168 = some [.int .i64 0, .int .i64 0, .int .i64 0] := by kernel_rfl
theorem ce_A3_int : Tryz.prog.cellsOf 168 = 3 := by kernel_rfl
theorem tk_P_prod_maker : tk Tryz.prog 171 = .one := by kernel_rfl
theorem sz_P_prod_maker : sizeA Tryz.prog 171 = some 1 := by kernel_rfl
theorem ze_P_prod_maker : zeroOf Tryz.prog 171 = some [.nilp] := by kernel_rfl
theorem ce_P_prod_maker : Tryz.prog.cellsOf 171 = 1 := by kernel_rfl
theorem un_P_prod_maker : Tryz.prog.underlying 171 = some (.pointer 175) := by kernel_rfl
theorem tk_M_A2_int_int : tk Tryz.prog 172 = .one := by kernel_rfl
theorem sz_M_A2_int_int : sizeA Tryz.prog 172 = some 1 := by kernel_rfl
theorem ze_M_A2_int_int : zeroOf Tryz.prog 172 = some [.nilm] := by kernel_rfl
theorem ce_M_A2_int_int : Tryz.prog.cellsOf 172 = 1 := by kernel_rfl
theorem tk_S_A2_int : tk Tryz.prog 173 = .one := by kernel_rfl
theorem sz_S_A2_int : sizeA Tryz.prog 173 = some 1 := by kernel_rfl
theorem ze_S_A2_int : zeroOf Tryz.prog 173 = some [.nils] := by kernel_rfl
theorem ce_S_A2_int : Tryz.prog.cellsOf 173 = 1 := by kernel_rfl
theorem un_S_A2_int : Tryz.prog.underlying 173 = some (.slice 177) := by kernel_rfl
theorem el_S_A2_int : elemOfA Tryz.prog 173 = some 2 := by kernel_rfl
theorem tk_prod_maker : tk Tryz.prog 175 = .agg 3 := by kernel_rfl
theorem sz_prod_maker : sizeA Tryz.prog 175 = some 3 := by kernel_rfl
theorem ze_prod_maker : zeroOf Tryz.prog 175 = some [.nilm, .nils, .nilp] := by kernel_rfl
theorem ce_prod_maker : Tryz.prog.cellsOf 175 = 3 := by kernel_rfl
theorem fo_prod_maker_0 : fieldOff Tryz.prog 175 0 = some 0 := by kernel_rfl
theorem fo_prod_maker_1 : fieldOff Tryz.prog 175 1 = some 1 := by kernel_rfl
theorem fo_prod_maker_2 : fieldOff Tryz.prog 175 2 = some 2 := by kernel_rfl
theorem fi_prod_maker_0 (l : List AV) : fieldA Tryz.prog 175 (.agg l) 0 = partA Tryz.prog 172 l 0 := by kernel_rfl
theorem fi_prod_maker_1 (l : List AV) : fieldA Tryz.prog 175 (.agg l) 1 = partA Tryz.prog 173 l 1 := by kernel_rfl
theorem fi_prod_maker_2 (l : List AV) : fieldA Tryz.prog 175 (.agg l) 2 = partA Tryz.prog 27 l 2 := by kernel_rfl
theorem st_prod_maker : StT Tryz.prog 175 [(0, 1), (1, 1), (2, 1)] [.nilm, .nils, .nilp] := ⟨⟨_, Tryz.underlying175, by kernel_rfl, by kernel_rfl⟩, ze_prod_maker⟩
theorem tk_atom_machine : tk Tryz.prog 181 = .agg 3 := by kernel_rfl
theorem sz_atom_machine : sizeA Tryz.prog 181 = some 3 := by kernel_rfl
theorem ze_atom_machine : zeroOf Tryz.prog 181 = some [.nilf, .int .i64 0, .int .i64 0] := by kernel_rfl
theorem ce_atom_machine : Tryz.prog.cellsOf 181 = 3 := by kernel_rfl
theorem fo_atom_machine_0 : fieldOff Tryz.prog 181 0 = some 0 := by kernel_rfl
theorem fo_atom_machine_1 : fieldOff Tryz.prog 181 1 = some 1 := by kernel_rfl
theorem fo_atom_machine_2 : fieldOff Tryz.prog 181 2 = some 2 := by kernel_rfl
theorem fi_atom_machine_0 (l : List AV) : fieldA Tryz.prog 181 (.agg l) 0 = partA Tryz.prog 179 l 0 := by kernel_rfl
theorem fi_atom_machine_1 (l : List AV) : fieldA Tryz.prog 181 (.agg l) 1 = partA Tryz.prog 3 l 1 := by kernel_rfl
theorem fi_atom_machine_2 (l : List AV) : fieldA Tryz.prog 181 (.agg l) 2 = partA Tryz.prog 3 l 2 := by kernel_rfl
theorem st_atom_machine : StT Tryz.prog 181 [(0, 1), (1, 1), (2, 1)] [.nilf, .int .i64 0, .int .i64 0] := ⟨⟨_, Tryz.underlying181, by kernel_rfl, by kernel_rfl⟩, ze_atom_machine⟩
theorem tk_bdd_leaf : tk Tryz.prog 193 = .agg 1 := by kernel_rfl
theorem sz_bdd_leaf : sizeA Tryz.prog 193 = some 1 := by kernel_rfl
theorem ze_bdd_leaf : zeroOf Tryz.prog 193 = some [.int .i64 0] := by kernel_rfl
theorem ce_bdd_leaf : Tryz.prog.cellsOf 193 = 1 := by kernel_rfl
theorem fo_bdd_leaf_0 : fieldOff Tryz.prog 193 0 = some 0 := by kernel_rfl
theorem fi_bdd_leaf_0 (l : List AV) : fieldA Tryz.prog 193 (.agg l) 0 = partA Tryz.prog 3 l 0 := by kernel_rfl
theorem st_bdd_leaf : StT Tryz.prog 193 [(0, 1)] [.int .i64 0] := ⟨⟨_, Tryz.underlying193, by kernel_rfl, by kernel_rfl⟩, ze_bdd_leaf⟩
theorem tk_bdd_fork : tk Tryz.prog 195 = .agg 3 := by kernel_rfl
theorem sz_bdd_fork : sizeA Tryz.prog 195 = some 3 := by kernel_rfl
theorem ze_bdd_fork : zeroOf Tryz.prog 195 = some [.int .i64 0, .int .i64 0, .int .i64 0] := by kernel_rfl
theorem ce_bdd_fork : Tryz.prog.cellsOf 195 = 3 := by kernel_rfl
theorem fo_bdd_fork_0 : fieldOff Tryz.prog 195 0 = some 0 := by kernel_rfl
theorem fo_bdd_fork_1 : fieldOff Tryz.prog 195 1 = some 1 := by kernel_rfl
theorem fo_bdd_fork_2 : fieldOff Tryz.prog 195 2 = some 2 := by kernel_rfl
theorem fi_bdd_fork_0 (l : List AV) : fieldA Tryz.prog 195 (.agg l) 0 = partA Tryz.prog 3 l 0 := by kernel_rfl
theorem fi_bdd_fork_1 (l : List AV) : fieldA Tryz.prog 195 (.agg l) 1 = partA Tryz.prog 3 l 1 := by kernel_rfl
theorem fi_bdd_fork_2 (l : List AV) : fieldA Tryz.prog 195 (.agg l) 2 = partA Tryz.prog 3 l 2 := by kernel_rfl
theorem st_bdd_fork : StT Tryz.prog 195 [(0, 1), (1, 1), (2, 1)] [.int .i64 0, .int .i64 0, .int .i64 0] := ⟨⟨_, Tryz.underlying195, by kernel_rfl, by kernel_rfl⟩, ze_bdd_fork⟩
theorem tk_P_pair_maker : tk Tryz.prog 209 = .one := by kernel_rfl
theorem sz_P_pair_maker : sizeA Tryz.prog 209 = some 1 := by kernel_rfl
theorem ze_P_pair_maker : zeroOf Tryz.prog 209 = some [.nilp] := by kernel_rfl
theorem ce_P_pair_maker : Tryz.prog.cellsOf 209 = 1 := by kernel_rfl
theorem un_P_pair_maker : Tryz.prog.underlying 209 = some (.pointer 211) := by kernel_rfl
theorem tk_pair_maker : tk Tryz.prog 211 = .agg 3 := by kernel_rfl
theorem sz_pair_maker : sizeA Tryz.prog 211 = some 3 := by kernel_rfl
theorem ze_pair_maker : zeroOf Tryz.prog 211 = some [.nilp, .nilf, .nilm] := by kernel_rfl
theorem ce_pair_maker : Tryz.prog.cellsOf 211 = 3 := by kernel_rfl
theorem fo_pair_maker_0 : fieldOff Tryz.prog 211 0 = some 0 := by kernel_rfl
theorem fo_pair_maker_1 : fieldOff Tryz.prog 211 1 = some 1 := by kernel_rfl
theorem fo_pair_maker_2 : fieldOff Tryz.prog 211 2 = some 2 := by kernel_rfl
theorem fi_pair_maker_0 (l : List AV) : fieldA Tryz.prog 211 (.agg l) 0 = partA Tryz.prog 84 l 0 := by kernel_rfl
theorem fi_pair_maker_1 (l : List AV) : fieldA Tryz.prog 211 (.agg l) 1 = partA Tryz.prog 93 l 1 := by kernel_rfl
theorem fi_pair_maker_2 (l : List AV) : fieldA Tryz.prog 211 (.agg l) 2 = partA Tryz.prog 172 l 2 := by kernel_rfl
theorem st_pair_maker : StT Tryz.prog 211 [(0, 1), (1, 1), (2, 1)] [.nilp, .nilf, .nilm] := ⟨⟨_, Tryz.underlying211, by kernel_rfl, by kernel_rfl⟩, ze_pair_maker⟩
theorem sl_S_bool : SlT Tryz.prog 22 4 1 := ⟨un_S_bool, by kernel_rfl, ⟨_, ze_bool, rfl⟩, by kernel_rfl, by decide, by decide +kernel⟩
theorem sl_S_sibylref20_pair : SlT Tryz.prog 78 77 2 := ⟨un_S_sibylref20_pair, by kernel_rfl, ⟨_, ze_sibylref20_pair, rfl⟩, by kernel_rfl, by decide, by decide +kernel⟩
theorem sl_S_P_auto_DFA : SlT Tryz.prog 111 29 1 := ⟨un_S_P_auto_DFA, by kernel_rfl, ⟨_, ze_P_auto_DFA, rfl⟩, by kernel_rfl, by decide, by decide +kernel⟩
theorem sl_S_bdd_node : SlT Tryz.prog 122 132 1 := ⟨un_S_bdd_node, by kernel_rfl, ⟨_, ze_bdd_node, rfl⟩, by kernel_rfl, by decide, by decide +kernel⟩
theorem sl_S_A2_int : SlT Tryz.prog 173 177 2 := ⟨un_S_A2_int, by kernel_rfl, ⟨_, ze_A2_int, rfl⟩, by kernel_rfl, by decide, by decide +kernel⟩
end Go.Proofs.YtiknomepbklibaaGreatDoor
