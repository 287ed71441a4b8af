/-
  Facts on the program's types.
-/
import Derived.Test.YtmjnbdkjekdkgaaDoorSy2
import Derived.Test.YtmjnbdkjekdkgaaDoorProg
namespace Go.Proofs.YtmjnbdkjekdkgaaDoor
open Go
set_option maxRecDepth 100000

theorem tk_int64 : tk Tryd.prog 2 = .one := by kernel_rfl
theorem sz_int64 : sizeA Tryd.prog 2 = some 1 := by kernel_rfl
theorem ze_int64 : zeroOf Tryd.prog 2 = some [.int .i64 0] := by kernel_rfl
theorem ce_int64 : Tryd.prog.cellsOf 2 = 1 := by kernel_rfl
theorem un_int64 : Tryd.prog.underlying 2 = some (.int .i64) := by kernel_rfl
theorem tk_int : tk Tryd.prog 3 = .one := by kernel_rfl
theorem sz_int : sizeA Tryd.prog 3 = some 1 := by kernel_rfl
theorem ze_int : zeroOf Tryd.prog 3 = some [.int .i64 0] := by kernel_rfl
theorem ce_int : Tryd.prog.cellsOf 3 = 1 := by kernel_rfl
theorem un_int : Tryd.prog.underlying 3 = some (.int .i64) := by kernel_rfl
theorem tk_bool : tk Tryd.prog 4 = .one := by kernel_rfl
theorem sz_bool : sizeA Tryd.prog 4 = some 1 := by kernel_rfl
theorem ze_bool : zeroOf Tryd.prog 4 = some [.bool false] := by kernel_rfl
theorem ce_bool : Tryd.prog.cellsOf 4 = 1 := by kernel_rfl
theorem un_bool : Tryd.prog.underlying 4 = some (.bool) := by kernel_rfl
theorem tk_uint8 : tk Tryd.prog 5 = .one := by kernel_rfl
theorem sz_uint8 : sizeA Tryd.prog 5 = some 1 := by kernel_rfl
theorem ze_uint8 : zeroOf Tryd.prog 5 = some [.int .u8 0] := by kernel_rfl
theorem ce_uint8 : Tryd.prog.cellsOf 5 = 1 := by kernel_rfl
theorem un_uint8 : Tryd.prog.underlying 5 = some (.int .u8) := by kernel_rfl
theorem tk_string : tk Tryd.prog 9 = .one := by kernel_rfl
theorem sz_string : sizeA Tryd.prog 9 = some 1 := by kernel_rfl
theorem ze_string : zeroOf Tryd.prog 9 = some [.str []] := by kernel_rfl
theorem ce_string : Tryd.prog.cellsOf 9 = 1 := by kernel_rfl
theorem un_string : Tryd.prog.underlying 9 = some (.string) := by kernel_rfl
theorem tk_uintptr : tk Tryd.prog 12 = .one := by kernel_rfl
theorem sz_uintptr : sizeA Tryd.prog 12 = some 1 := by kernel_rfl
theorem ze_uintptr : zeroOf Tryd.prog 12 = some [.int .u64 0] := by kernel_rfl
theorem ce_uintptr : Tryd.prog.cellsOf 12 = 1 := by kernel_rfl
theorem un_uintptr : Tryd.prog.underlying 12 = some (.int .u64) := by kernel_rfl
theorem tk_int32 : tk Tryd.prog 21 = .one := by kernel_rfl
theorem sz_int32 : sizeA Tryd.prog 21 = some 1 := by kernel_rfl
theorem ze_int32 : zeroOf Tryd.prog 21 = some [.int .i32 0] := by kernel_rfl
theorem ce_int32 : Tryd.prog.cellsOf 21 = 1 := by kernel_rfl
theorem un_int32 : Tryd.prog.underlying 21 = some (.int .i32) := by kernel_rfl
theorem tk_S_api_Node : tk Tryd.prog 22 = .one := by kernel_rfl
theorem sz_S_api_Node : sizeA Tryd.prog 22 = some 1 := by kernel_rfl
theorem ze_S_api_Node : zeroOf Tryd.prog 22 = some [.nils] := by kernel_rfl
theorem ce_S_api_Node : Tryd.prog.cellsOf 22 = 1 := by kernel_rfl
theorem un_S_api_Node : Tryd.prog.underlying 22 = some (.slice 24) := by kernel_rfl
theorem el_S_api_Node : elemOfA Tryd.prog 22 = some 5 := by kernel_rfl
theorem tk_api_Node : tk Tryd.prog 24 = .agg 5 := by kernel_rfl
theorem sz_api_Node : sizeA Tryd.prog 24 = some 5 := by kernel_rfl
theorem ze_api_Node : zeroOf Tryd.prog 24 = some [.str [], .str [], .int .i64 0, .int .i64 0, .nils] := by kernel_rfl
theorem ce_api_Node : Tryd.prog.cellsOf 24 = 5 := by kernel_rfl
theorem fo_api_Node_0 : fieldOff Tryd.prog 24 0 = some 0 := by kernel_rfl
theorem fo_api_Node_1 : fieldOff Tryd.prog 24 1 = some 1 := by kernel_rfl
theorem fo_api_Node_2 : fieldOff Tryd.prog 24 2 = some 2 := by kernel_rfl
theorem fo_api_Node_3 : fieldOff Tryd.prog 24 3 = some 3 := by kernel_rfl
theorem fo_api_Node_4 : fieldOff Tryd.prog 24 4 = some 4 := by kernel_rfl
theorem fi_api_Node_0 (l : List AV) : fieldA Tryd.prog 24 (.agg l) 0 = partA Tryd.prog 9 l 0 := by kernel_rfl
theorem fi_api_Node_1 (l : List AV) : fieldA Tryd.prog 24 (.agg l) 1 = partA Tryd.prog 9 l 1 := by kernel_rfl
theorem fi_api_Node_2 (l : List AV) : fieldA Tryd.prog 24 (.agg l) 2 = partA Tryd.prog 3 l 2 := by kernel_rfl
theorem fi_api_Node_3 (l : List AV) : fieldA Tryd.prog 24 (.agg l) 3 = partA Tryd.prog 3 l 3 := by kernel_rfl
theorem fi_api_Node_4 (l : List AV) : fieldA Tryd.prog 24 (.agg l) 4 = partA Tryd.prog 22 l 4 := by kernel_rfl
theorem st_api_Node : StT Tryd.prog 24 [(0, 1), (1, 1), (2, 1), (3, 1), (4, 1)] [.str [], .str [], .int .i64 0, .int .i64 0, .nils] := ⟨⟨_, Tryd.underlying24, by kernel_rfl, by kernel_rfl⟩, ze_api_Node⟩
theorem tk_S_api_Decl : tk Tryd.prog 28 = .one := by kernel_rfl
theorem sz_S_api_Decl : sizeA Tryd.prog 28 = some 1 := by kernel_rfl
theorem ze_S_api_Decl : zeroOf Tryd.prog 28 = some [.nils] := by kernel_rfl
theorem ce_S_api_Decl : Tryd.prog.cellsOf 28 = 1 := by kernel_rfl
theorem un_S_api_Decl : Tryd.prog.underlying 28 = some (.slice 64) := by kernel_rfl
theorem el_S_api_Decl : elemOfA Tryd.prog 28 = some 3 := by kernel_rfl
theorem tk_S_api_Pred : tk Tryd.prog 29 = .one := by kernel_rfl
theorem sz_S_api_Pred : sizeA Tryd.prog 29 = some 1 := by kernel_rfl
theorem ze_S_api_Pred : zeroOf Tryd.prog 29 = some [.nils] := by kernel_rfl
theorem ce_S_api_Pred : Tryd.prog.cellsOf 29 = 1 := by kernel_rfl
theorem un_S_api_Pred : Tryd.prog.underlying 29 = some (.slice 33) := by kernel_rfl
theorem el_S_api_Pred : elemOfA Tryd.prog 29 = some 8 := by kernel_rfl
theorem tk_api_Prog : tk Tryd.prog 31 = .agg 7 := by kernel_rfl
theorem sz_api_Prog : sizeA Tryd.prog 31 = some 7 := by kernel_rfl
theorem ze_api_Prog : zeroOf Tryd.prog 31 = some [.nils, .nils, .str [], .str [], .int .i64 0, .int .i64 0, .nils] := by kernel_rfl
theorem ce_api_Prog : Tryd.prog.cellsOf 31 = 7 := by kernel_rfl
theorem fo_api_Prog_0 : fieldOff Tryd.prog 31 0 = some 0 := by kernel_rfl
theorem fo_api_Prog_1 : fieldOff Tryd.prog 31 1 = some 1 := by kernel_rfl
theorem fo_api_Prog_2 : fieldOff Tryd.prog 31 2 = some 2 := by kernel_rfl
theorem fi_api_Prog_0 (l : List AV) : fieldA Tryd.prog 31 (.agg l) 0 = partA Tryd.prog 28 l 0 := by kernel_rfl
theorem fi_api_Prog_1 (l : List AV) : fieldA Tryd.prog 31 (.agg l) 1 = partA Tryd.prog 29 l 1 := by kernel_rfl
theorem fi_api_Prog_2 (l : List AV) : fieldA Tryd.prog 31 (.agg l) 2 = partA Tryd.prog 24 l 2 := by kernel_rfl
theorem st_api_Prog : StT Tryd.prog 31 [(0, 1), (1, 1), (2, 5)] [.nils, .nils, .str [], .str [], .int .i64 0, .int .i64 0, .nils] := ⟨⟨_, Tryd.underlying31, by kernel_rfl, by kernel_rfl⟩, ze_api_Prog⟩
theorem tk_api_Pred : tk Tryd.prog 33 = .agg 8 := by kernel_rfl
theorem sz_api_Pred : sizeA Tryd.prog 33 = some 8 := by kernel_rfl
theorem ze_api_Pred : zeroOf Tryd.prog 33 = some [.str [], .nils, .str [], .str [], .int .i64 0, .int .i64 0, .nils, .int .i64 0] := by kernel_rfl
theorem ce_api_Pred : Tryd.prog.cellsOf 33 = 8 := by kernel_rfl
theorem fo_api_Pred_0 : fieldOff Tryd.prog 33 0 = some 0 := by kernel_rfl
theorem fo_api_Pred_1 : fieldOff Tryd.prog 33 1 = some 1 := by kernel_rfl
theorem fo_api_Pred_2 : fieldOff Tryd.prog 33 2 = some 2 := by kernel_rfl
theorem fo_api_Pred_3 : fieldOff Tryd.prog 33 3 = some 7 := by kernel_rfl
theorem fi_api_Pred_0 (l : List AV) : fieldA Tryd.prog 33 (.agg l) 0 = partA Tryd.prog 9 l 0 := by kernel_rfl
theorem fi_api_Pred_1 (l : List AV) : fieldA Tryd.prog 33 (.agg l) 1 = partA Tryd.prog 28 l 1 := by kernel_rfl
theorem fi_api_Pred_2 (l : List AV) : fieldA Tryd.prog 33 (.agg l) 2 = partA Tryd.prog 24 l 2 := by kernel_rfl
theorem fi_api_Pred_3 (l : List AV) : fieldA Tryd.prog 33 (.agg l) 3 = partA Tryd.prog 3 l 7 := by kernel_rfl
theorem st_api_Pred : StT Tryd.prog 33 [(0, 1), (1, 1), (2, 5), (7, 1)] [.str [], .nils, .str [], .str [], .int .i64 0, .int .i64 0, .nils, .int .i64 0] := ⟨⟨_, Tryd.underlying33, by kernel_rfl, by kernel_rfl⟩, ze_api_Pred⟩
theorem tk_S_string : tk Tryd.prog 36 = .one := by kernel_rfl
theorem sz_S_string : sizeA Tryd.prog 36 = some 1 := by kernel_rfl
theorem ze_S_string : zeroOf Tryd.prog 36 = some [.nils] := by kernel_rfl
theorem ce_S_string : Tryd.prog.cellsOf 36 = 1 := by kernel_rfl
theorem un_S_string : Tryd.prog.underlying 36 = some (.slice 9) := by kernel_rfl
theorem el_S_string : elemOfA Tryd.prog 36 = some 1 := by kernel_rfl
theorem tk_free_put : tk Tryd.prog 58 = .agg 2 := by kernel_rfl
theorem sz_free_put : sizeA Tryd.prog 58 = some 2 := by kernel_rfl
theorem ze_free_put : zeroOf Tryd.prog 58 = some [.nils, .nils] := by kernel_rfl
theorem ce_free_put : Tryd.prog.cellsOf 58 = 2 := by kernel_rfl
theorem fo_free_put_0 : fieldOff Tryd.prog 58 0 = some 0 := by kernel_rfl
theorem fo_free_put_1 : fieldOff Tryd.prog 58 1 = some 1 := by kernel_rfl
theorem fi_free_put_0 (l : List AV) : fieldA Tryd.prog 58 (.agg l) 0 = partA Tryd.prog 36 l 0 := by kernel_rfl
theorem fi_free_put_1 (l : List AV) : fieldA Tryd.prog 58 (.agg l) 1 = partA Tryd.prog 22 l 1 := by kernel_rfl
theorem st_free_put : StT Tryd.prog 58 [(0, 1), (1, 1)] [.nils, .nils] := ⟨⟨_, Tryd.underlying58, by kernel_rfl, by kernel_rfl⟩, ze_free_put⟩
theorem tk_api_Decl : tk Tryd.prog 64 = .agg 3 := by kernel_rfl
theorem sz_api_Decl : sizeA Tryd.prog 64 = some 3 := by kernel_rfl
theorem ze_api_Decl : zeroOf Tryd.prog 64 = some [.str [], .int .i64 0, .int .i64 0] := by kernel_rfl
theorem ce_api_Decl : Tryd.prog.cellsOf 64 = 3 := by kernel_rfl
theorem fo_api_Decl_0 : fieldOff Tryd.prog 64 0 = some 0 := by kernel_rfl
theorem fo_api_Decl_1 : fieldOff Tryd.prog 64 1 = some 1 := by kernel_rfl
theorem fo_api_Decl_2 : fieldOff Tryd.prog 64 2 = some 2 := by kernel_rfl
theorem fi_api_Decl_0 (l : List AV) : fieldA Tryd.prog 64 (.agg l) 0 = partA Tryd.prog 9 l 0 := by kernel_rfl
theorem fi_api_Decl_1 (l : List AV) : fieldA Tryd.prog 64 (.agg l) 1 = partA Tryd.prog 3 l 1 := by kernel_rfl
theorem fi_api_Decl_2 (l : List AV) : fieldA Tryd.prog 64 (.agg l) 2 = partA Tryd.prog 3 l 2 := by kernel_rfl
theorem st_api_Decl : StT Tryd.prog 64 [(0, 1), (1, 1), (2, 1)] [.str [], .int .i64 0, .int .i64 0] := ⟨⟨_, Tryd.underlying64, by kernel_rfl, by kernel_rfl⟩, ze_api_Decl⟩
theorem tk_S_api_Token : tk Tryd.prog 67 = .one := by kernel_rfl
theorem sz_S_api_Token : sizeA Tryd.prog 67 = some 1 := by kernel_rfl
theorem ze_S_api_Token : zeroOf Tryd.prog 67 = some [.nils] := by kernel_rfl
theorem ce_S_api_Token : Tryd.prog.cellsOf 67 = 1 := by kernel_rfl
theorem un_S_api_Token : Tryd.prog.underlying 67 = some (.slice 71) := by kernel_rfl
theorem el_S_api_Token : elemOfA Tryd.prog 67 = some 4 := by kernel_rfl
theorem tk_api_Token : tk Tryd.prog 71 = .agg 4 := by kernel_rfl
theorem sz_api_Token : sizeA Tryd.prog 71 = some 4 := by kernel_rfl
theorem ze_api_Token : zeroOf Tryd.prog 71 = some [.int .i64 0, .str [], .int .i64 0, .int .i64 0] := by kernel_rfl
theorem ce_api_Token : Tryd.prog.cellsOf 71 = 4 := by kernel_rfl
theorem fo_api_Token_0 : fieldOff Tryd.prog 71 0 = some 0 := by kernel_rfl
theorem fo_api_Token_1 : fieldOff Tryd.prog 71 1 = some 1 := by kernel_rfl
theorem fo_api_Token_2 : fieldOff Tryd.prog 71 2 = some 2 := by kernel_rfl
theorem fo_api_Token_3 : fieldOff Tryd.prog 71 3 = some 3 := by kernel_rfl
theorem fi_api_Token_0 (l : List AV) : fieldA Tryd.prog 71 (.agg l) 0 = partA Tryd.prog 3 l 0 := by kernel_rfl
theorem fi_api_Token_1 (l : List AV) : fieldA Tryd.prog 71 (.agg l) 1 = partA Tryd.prog 9 l 1 := by kernel_rfl
theorem fi_api_Token_2 (l : List AV) : fieldA Tryd.prog 71 (.agg l) 2 = partA Tryd.prog 3 l 2 := by kernel_rfl
theorem fi_api_Token_3 (l : List AV) : fieldA Tryd.prog 71 (.agg l) 3 = partA Tryd.prog 3 l 3 := by kernel_rfl
theorem st_api_Token : StT Tryd.prog 71 [(0, 1), (1, 1), (2, 1), (3, 1)] [.int .i64 0, .str [], .int .i64 0, .int .i64 0] := ⟨⟨_, Tryd.underlying71, by kernel_rfl, by kernel_rfl⟩, ze_api_Token⟩
theorem tk_uint : tk Tryd.prog 74 = .one := by kernel_rfl
theorem sz_uint : sizeA Tryd.prog 74 = some 1 := by kernel_rfl
theorem ze_uint : zeroOf Tryd.prog 74 = some [.int .u64 0] := by kernel_rfl
theorem ce_uint : Tryd.prog.cellsOf 74 = 1 := by kernel_rfl
theorem un_uint : Tryd.prog.underlying 74 = some (.int .u64) := by kernel_rfl
theorem tk_api_Errno : tk Tryd.prog 80 = .one := by kernel_rfl
theorem sz_api_Errno : sizeA Tryd.prog 80 = some 1 := by kernel_rfl
theorem ze_api_Errno : zeroOf Tryd.prog 80 = some [.int .i64 0] := by kernel_rfl
theorem ce_api_Errno : Tryd.prog.cellsOf 80 = 1 := by kernel_rfl
theorem un_api_Errno : Tryd.prog.underlying 80 = some (.int .i64) := by kernel_rfl
theorem tk_P_sibylref2_reader : tk Tryd.prog 84 = .one := by kernel_rfl
theorem sz_P_sibylref2_reader : sizeA Tryd.prog 84 = some 1 := by kernel_rfl
theorem ze_P_sibylref2_reader : zeroOf Tryd.prog 84 = some [.nilp] := by kernel_rfl
theorem ce_P_sibylref2_reader : Tryd.prog.cellsOf 84 = 1 := by kernel_rfl
theorem un_P_sibylref2_reader : Tryd.prog.underlying 84 = some (.pointer 87) := by kernel_rfl
theorem tk_S_api_Rune : tk Tryd.prog 85 = .one := by kernel_rfl
theorem sz_S_api_Rune : sizeA Tryd.prog 85 = some 1 := by kernel_rfl
theorem ze_S_api_Rune : zeroOf Tryd.prog 85 = some [.nils] := by kernel_rfl
theorem ce_S_api_Rune : Tryd.prog.cellsOf 85 = 1 := by kernel_rfl
theorem un_S_api_Rune : Tryd.prog.underlying 85 = some (.slice 127) := by kernel_rfl
theorem el_S_api_Rune : elemOfA Tryd.prog 85 = some 2 := by kernel_rfl
theorem tk_sibylref2_reader : tk Tryd.prog 87 = .agg 4 := by kernel_rfl
theorem sz_sibylref2_reader : sizeA Tryd.prog 87 = some 4 := by kernel_rfl
theorem ze_sibylref2_reader : zeroOf Tryd.prog 87 = some [.str [], .nils, .int .i64 0, .int .i64 0] := by kernel_rfl
theorem ce_sibylref2_reader : Tryd.prog.cellsOf 87 = 4 := by kernel_rfl
theorem fo_sibylref2_reader_0 : fieldOff Tryd.prog 87 0 = some 0 := by kernel_rfl
theorem fo_sibylref2_reader_1 : fieldOff Tryd.prog 87 1 = some 1 := by kernel_rfl
theorem fo_sibylref2_reader_2 : fieldOff Tryd.prog 87 2 = some 2 := by kernel_rfl
theorem fo_sibylref2_reader_3 : fieldOff Tryd.prog 87 3 = some 3 := by kernel_rfl
theorem fi_sibylref2_reader_0 (l : List AV) : fieldA Tryd.prog 87 (.agg l) 0 = partA Tryd.prog 9 l 0 := by kernel_rfl
theorem fi_sibylref2_reader_1 (l : List AV) : fieldA Tryd.prog 87 (.agg l) 1 = partA Tryd.prog 85 l 1 := by kernel_rfl
theorem fi_sibylref2_reader_2 (l : List AV) : fieldA Tryd.prog 87 (.agg l) 2 = partA Tryd.prog 3 l 2 := by kernel_rfl
theorem fi_sibylref2_reader_3 (l : List AV) : fieldA Tryd.prog 87 (.agg l) 3 = partA Tryd.prog 3 l 3 := by kernel_rfl
theorem st_sibylref2_reader : StT Tryd.prog 87 [(0, 1), (1, 1), (2, 1), (3, 1)] [.str [], .nils, .int .i64 0, .int .i64 0] := ⟨⟨_, Tryd.underlying87, by kernel_rfl, by kernel_rfl⟩, ze_sibylref2_reader⟩
theorem tk_slices_sortedHint : tk Tryd.prog 95 = .one := by kernel_rfl
theorem sz_slices_sortedHint : sizeA Tryd.prog 95 = some 1 := by kernel_rfl
theorem ze_slices_sortedHint : zeroOf Tryd.prog 95 = some [.int .i64 0] := by kernel_rfl
theorem ce_slices_sortedHint : Tryd.prog.cellsOf 95 = 1 := by kernel_rfl
theorem un_slices_sortedHint : Tryd.prog.underlying 95 = some (.int .i64) := by kernel_rfl
theorem tk_uint32 : tk Tryd.prog 104 = .one := by kernel_rfl
theorem sz_uint32 : sizeA Tryd.prog 104 = some 1 := by kernel_rfl
theorem ze_uint32 : zeroOf Tryd.prog 104 = some [.int .u32 0] := by kernel_rfl
theorem ce_uint32 : Tryd.prog.cellsOf 104 = 1 := by kernel_rfl
theorem un_uint32 : Tryd.prog.underlying 104 = some (.int .u32) := by kernel_rfl
theorem tk_uint64 : tk Tryd.prog 106 = .one := by kernel_rfl
theorem sz_uint64 : sizeA Tryd.prog 106 = some 1 := by kernel_rfl
theorem ze_uint64 : zeroOf Tryd.prog 106 = some [.int .u64 0] := by kernel_rfl
theorem ce_uint64 : Tryd.prog.cellsOf 106 = 1 := by kernel_rfl
theorem un_uint64 : Tryd.prog.underlying 106 = some (.int .u64) := by kernel_rfl
theorem tk_P_sibylref4_parser : tk Tryd.prog 107 = .one := by kernel_rfl
theorem sz_P_sibylref4_parser : sizeA Tryd.prog 107 = some 1 := by kernel_rfl
theorem ze_P_sibylref4_parser : zeroOf Tryd.prog 107 = some [.nilp] := by kernel_rfl
theorem ce_P_sibylref4_parser : Tryd.prog.cellsOf 107 = 1 := by kernel_rfl
theorem un_P_sibylref4_parser : Tryd.prog.underlying 107 = some (.pointer 109) := by kernel_rfl
theorem tk_sibylref4_parser : tk Tryd.prog 109 = .agg 4 := by kernel_rfl
theorem sz_sibylref4_parser : sizeA Tryd.prog 109 = some 4 := by kernel_rfl
theorem ze_sibylref4_parser : zeroOf Tryd.prog 109 = some [.nils, .int .i64 0, .int .i64 0, .int .i64 0] := by kernel_rfl
theorem ce_sibylref4_parser : Tryd.prog.cellsOf 109 = 4 := by kernel_rfl
theorem fo_sibylref4_parser_0 : fieldOff Tryd.prog 109 0 = some 0 := by kernel_rfl
theorem fo_sibylref4_parser_1 : fieldOff Tryd.prog 109 1 = some 1 := by kernel_rfl
theorem fo_sibylref4_parser_2 : fieldOff Tryd.prog 109 2 = some 2 := by kernel_rfl
theorem fo_sibylref4_parser_3 : fieldOff Tryd.prog 109 3 = some 3 := by kernel_rfl
theorem fi_sibylref4_parser_0 (l : List AV) : fieldA Tryd.prog 109 (.agg l) 0 = partA Tryd.prog 67 l 0 := by kernel_rfl
theorem fi_sibylref4_parser_1 (l : List AV) : fieldA Tryd.prog 109 (.agg l) 1 = partA Tryd.prog 3 l 1 := by kernel_rfl
theorem fi_sibylref4_parser_2 (l : List AV) : fieldA Tryd.prog 109 (.agg l) 2 = partA Tryd.prog 3 l 2 := by kernel_rfl
theorem fi_sibylref4_parser_3 (l : List AV) : fieldA Tryd.prog 109 (.agg l) 3 = partA Tryd.prog 3 l 3 := by kernel_rfl
theorem st_sibylref4_parser : StT Tryd.prog 109 [(0, 1), (1, 1), (2, 1), (3, 1)] [.nils, .int .i64 0, .int .i64 0, .int .i64 0] := ⟨⟨_, Tryd.underlying109, by kernel_rfl, by kernel_rfl⟩, ze_sibylref4_parser⟩
theorem tk_P_lex_lexer : tk Tryd.prog 120 = .one := by kernel_rfl
theorem sz_P_lex_lexer : sizeA Tryd.prog 120 = some 1 := by kernel_rfl
theorem ze_P_lex_lexer : zeroOf Tryd.prog 120 = some [.nilp] := by kernel_rfl
theorem ce_P_lex_lexer : Tryd.prog.cellsOf 120 = 1 := by kernel_rfl
theorem un_P_lex_lexer : Tryd.prog.underlying 120 = some (.pointer 122) := by kernel_rfl
theorem tk_lex_lexer : tk Tryd.prog 122 = .agg 4 := by kernel_rfl
theorem sz_lex_lexer : sizeA Tryd.prog 122 = some 4 := by kernel_rfl
theorem ze_lex_lexer : zeroOf Tryd.prog 122 = some [.str [], .nils, .int .i64 0, .int .i64 0] := by kernel_rfl
theorem ce_lex_lexer : Tryd.prog.cellsOf 122 = 4 := by kernel_rfl
theorem fo_lex_lexer_0 : fieldOff Tryd.prog 122 0 = some 0 := by kernel_rfl
theorem fo_lex_lexer_1 : fieldOff Tryd.prog 122 1 = some 1 := by kernel_rfl
theorem fo_lex_lexer_2 : fieldOff Tryd.prog 122 2 = some 2 := by kernel_rfl
theorem fo_lex_lexer_3 : fieldOff Tryd.prog 122 3 = some 3 := by kernel_rfl
theorem fi_lex_lexer_0 (l : List AV) : fieldA Tryd.prog 122 (.agg l) 0 = partA Tryd.prog 9 l 0 := by kernel_rfl
theorem fi_lex_lexer_1 (l : List AV) : fieldA Tryd.prog 122 (.agg l) 1 = partA Tryd.prog 85 l 1 := by kernel_rfl
theorem fi_lex_lexer_2 (l : List AV) : fieldA Tryd.prog 122 (.agg l) 2 = partA Tryd.prog 3 l 2 := by kernel_rfl
theorem fi_lex_lexer_3 (l : List AV) : fieldA Tryd.prog 122 (.agg l) 3 = partA Tryd.prog 3 l 3 := by kernel_rfl
theorem st_lex_lexer : StT Tryd.prog 122 [(0, 1), (1, 1), (2, 1), (3, 1)] [.str [], .nils, .int .i64 0, .int .i64 0] := ⟨⟨_, Tryd.underlying122, by kernel_rfl, by kernel_rfl⟩, ze_lex_lexer⟩
theorem tk_api_Rune : tk Tryd.prog 127 = .agg 2 := by kernel_rfl
theorem sz_api_Rune : sizeA Tryd.prog 127 = some 2 := by kernel_rfl
theorem ze_api_Rune : zeroOf Tryd.prog 127 = some [.int .i32 0, .int .i64 0] := by kernel_rfl
theorem ce_api_Rune : Tryd.prog.cellsOf 127 = 2 := by kernel_rfl
theorem fo_api_Rune_0 : fieldOff Tryd.prog 127 0 = some 0 := by kernel_rfl
theorem fo_api_Rune_1 : fieldOff Tryd.prog 127 1 = some 1 := by kernel_rfl
theorem fi_api_Rune_0 (l : List AV) : fieldA Tryd.prog 127 (.agg l) 0 = partA Tryd.prog 21 l 0 := by kernel_rfl
theorem fi_api_Rune_1 (l : List AV) : fieldA Tryd.prog 127 (.agg l) 1 = partA Tryd.prog 3 l 1 := by kernel_rfl
theorem st_api_Rune : StT Tryd.prog 127 [(0, 1), (1, 1)] [.int .i32 0, .int .i64 0] := ⟨⟨_, Tryd.underlying127, by kernel_rfl, by kernel_rfl⟩, ze_api_Rune⟩
theorem tk_slices_xorshift : tk Tryd.prog 129 = .one := by kernel_rfl
theorem sz_slices_xorshift : sizeA Tryd.prog 129 = some 1 := by kernel_rfl
theorem ze_slices_xorshift : zeroOf Tryd.prog 129 = some [.int .u64 0] := by kernel_rfl
theorem ce_slices_xorshift : Tryd.prog.cellsOf 129 = 1 := by kernel_rfl
theorem un_slices_xorshift : Tryd.prog.underlying 129 = some (.int .u64) := by kernel_rfl
theorem tk_P_int : tk Tryd.prog 133 = .one := by kernel_rfl
theorem sz_P_int : sizeA Tryd.prog 133 = some 1 := by kernel_rfl
theorem ze_P_int : zeroOf Tryd.prog 133 = some [.nilp] := by kernel_rfl
theorem ce_P_int : Tryd.prog.cellsOf 133 = 1 := by kernel_rfl
theorem un_P_int : Tryd.prog.underlying 133 = some (.pointer 3) := by kernel_rfl
theorem tk_S_uint8 : tk Tryd.prog 135 = .one := by kernel_rfl
theorem sz_S_uint8 : sizeA Tryd.prog 135 = some 1 := by kernel_rfl
theorem ze_S_uint8 : zeroOf Tryd.prog 135 = some [.nils] := by kernel_rfl
theorem ce_S_uint8 : Tryd.prog.cellsOf 135 = 1 := by kernel_rfl
theorem un_S_uint8 : Tryd.prog.underlying 135 = some (.slice 5) := by kernel_rfl
theorem el_S_uint8 : elemOfA Tryd.prog 135 = some 1 := by kernel_rfl
theorem tk_P_slices_xorshift : tk Tryd.prog 139 = .one := by kernel_rfl
theorem sz_P_slices_xorshift : sizeA Tryd.prog 139 = some 1 := by kernel_rfl
theorem ze_P_slices_xorshift : zeroOf Tryd.prog 139 = some [.nilp] := by kernel_rfl
theorem ce_P_slices_xorshift : Tryd.prog.cellsOf 139 = 1 := by kernel_rfl
theorem un_P_slices_xorshift : Tryd.prog.underlying 139 = some (.pointer 129) := by kernel_rfl
theorem tk_utf8_acceptRange : tk Tryd.prog 145 = .agg 2 := by kernel_rfl
theorem sz_utf8_acceptRange : sizeA Tryd.prog 145 = some 2 := by kernel_rfl
theorem ze_utf8_acceptRange : zeroOf Tryd.prog 145 = some [.int .u8 0, .int .u8 0] := by kernel_rfl
theorem ce_utf8_acceptRange : Tryd.prog.cellsOf 145 = 2 := by kernel_rfl
theorem fo_utf8_acceptRange_0 : fieldOff Tryd.prog 145 0 = some 0 := by kernel_rfl
theorem fo_utf8_acceptRange_1 : fieldOff Tryd.prog 145 1 = some 1 := by kernel_rfl
theorem fi_utf8_acceptRange_0 (l : List AV) : fieldA Tryd.prog 145 (.agg l) 0 = partA Tryd.prog 5 l 0 := by kernel_rfl
theorem fi_utf8_acceptRange_1 (l : List AV) : fieldA Tryd.prog 145 (.agg l) 1 = partA Tryd.prog 5 l 1 := by kernel_rfl
theorem st_utf8_acceptRange : StT Tryd.prog 145 [(0, 1), (1, 1)] [.int .u8 0, .int .u8 0] := ⟨⟨_, Tryd.underlying145, by kernel_rfl, by kernel_rfl⟩, ze_utf8_acceptRange⟩
theorem tk_A16_utf8_acceptRange : tk Tryd.prog 146 = .agg 32 := by kernel_rfl
theorem sz_A16_utf8_acceptRange : sizeA Tryd.prog 146 = some 32 := by kernel_rfl
theorem ze_A16_utf8_acceptRange : zeroOf Tryd.prog 146 = some [.int .u8 0, .int .u8 0, .int .u8 0, .int .u8 0, .int .u8 0, .int .u8 0, .int .u8 0, .int .u8 0, .int .u8 0, .int .u8 0, .int .u8 0, .int .u8 0, .int .u8 0, .int .u8 0, .int .u8 0, .int .u8 0, .int .u8 0, .int .u8 0, .int .u8 0, .int .u8 0, .int .u8 0, .int .u8 0, .int .u8 0, .int .u8 0, .int .u8 0, .int .u8 0, .int .u8 0, .int .u8 0, .int .u8 0, .int .u8 0, .int .u8 0, .int .u8 0] := by kernel_rfl
theorem ce_A16_utf8_acceptRange : Tryd.prog.cellsOf 146 = 32 := by kernel_rfl
theorem tk_P_uint8 : tk Tryd.prog 160 = .one := by kernel_rfl
theorem sz_P_uint8 : sizeA Tryd.prog 160 = some 1 := by kernel_rfl
theorem ze_P_uint8 : zeroOf Tryd.prog 160 = some [.nilp] := by kernel_rfl
theorem ce_P_uint8 : Tryd.prog.cellsOf 160 = 1 := by kernel_rfl
theorem un_P_uint8 : Tryd.prog.underlying 160 = some (.pointer 5) := by kernel_rfl
theorem sl_S_api_Node : SlT Tryd.prog 22 24 5 := ⟨un_S_api_Node, by kernel_rfl, ⟨_, ze_api_Node, rfl⟩, by kernel_rfl, by decide, by decide +kernel⟩
theorem sl_S_api_Decl : SlT Tryd.prog 28 64 3 := ⟨un_S_api_Decl, by kernel_rfl, ⟨_, ze_api_Decl, rfl⟩, by kernel_rfl, by decide, by decide +kernel⟩
theorem sl_S_api_Pred : SlT Tryd.prog 29 33 8 := ⟨un_S_api_Pred, by kernel_rfl, ⟨_, ze_api_Pred, rfl⟩, by kernel_rfl, by decide, by decide +kernel⟩
theorem sl_S_string : SlT Tryd.prog 36 9 1 := ⟨un_S_string, by kernel_rfl, ⟨_, ze_string, rfl⟩, by kernel_rfl, by decide, by decide +kernel⟩
theorem sl_S_api_Token : SlT Tryd.prog 67 71 4 := ⟨un_S_api_Token, by kernel_rfl, ⟨_, ze_api_Token, rfl⟩, by kernel_rfl, by decide, by decide +kernel⟩
theorem sl_S_api_Rune : SlT Tryd.prog 85 127 2 := ⟨un_S_api_Rune, by kernel_rfl, ⟨_, ze_api_Rune, rfl⟩, by kernel_rfl, by decide, by decide +kernel⟩
theorem sl_S_uint8 : SlT Tryd.prog 135 5 1 := ⟨un_S_uint8, by kernel_rfl, ⟨_, ze_uint8, rfl⟩, by kernel_rfl, by decide, by decide +kernel⟩
end Go.Proofs.YtmjnbdkjekdkgaaDoor
