/-
  Facts on the program's types.
-/
import Derived.Test.YtcccnnfmhdogoaaDoorSy2
import Derived.Test.YtcccnnfmhdogoaaDoorProg
namespace Go.Proofs.YtcccnnfmhdogoaaDoor
open Go
set_option maxRecDepth 100000

theorem tk_int64 : tk Tryd.prog 2 = .one := by kernel_rfl
theorem sz_int64 : sizeA Tryd.prog 2 = some 1 := by kernel_rfl
theorem ze_int64 : zeroOf Tryd.prog 2 = some [.int .i64 0] := by kernel_rfl
theorem ce_int64 : Tryd.prog.cellsOf 2 = 1 := by kernel_rfl
theorem un_int64 : Tryd.prog.underlying 2 = some (.int .i64) := by kernel_rfl
theorem tk_int : tk Tryd.prog 3 = .one := by kernel_rfl
theorem sz_int : sizeA Tryd.prog 3 = some 1 := by kernel_rfl
theorem ze_int : zeroOf Tryd.prog 3 = some [.int .i64 0] := by kernel_rfl
theorem ce_int : Tryd.prog.cellsOf 3 = 1 := by kernel_rfl
theorem un_int : Tryd.prog.underlying 3 = some (.int .i64) := by kernel_rfl
theorem tk_bool : tk Tryd.prog 4 = .one := by kernel_rfl
theorem sz_bool : sizeA Tryd.prog 4 = some 1 := by kernel_rfl
theorem ze_bool : zeroOf Tryd.prog 4 = some [.bool false] := by kernel_rfl
theorem ce_bool : Tryd.prog.cellsOf 4 = 1 := by kernel_rfl
theorem un_bool : Tryd.prog.underlying 4 = some (.bool) := by kernel_rfl
theorem tk_uint8 : tk Tryd.prog 5 = .one := by kernel_rfl
theorem sz_uint8 : sizeA Tryd.prog 5 = some 1 := by kernel_rfl
theorem ze_uint8 : zeroOf Tryd.prog 5 = some [.int .u8 0] := by kernel_rfl
theorem ce_uint8 : Tryd.prog.cellsOf 5 = 1 := by kernel_rfl
theorem un_uint8 : Tryd.prog.underlying 5 = some (.int .u8) := by kernel_rfl
theorem tk_string : tk Tryd.prog 9 = .one := by kernel_rfl
theorem sz_string : sizeA Tryd.prog 9 = some 1 := by kernel_rfl
theorem ze_string : zeroOf Tryd.prog 9 = some [.str []] := by kernel_rfl
theorem ce_string : Tryd.prog.cellsOf 9 = 1 := by kernel_rfl
theorem un_string : Tryd.prog.underlying 9 = some (.string) := by kernel_rfl
theorem tk_uintptr : tk Tryd.prog 12 = .one := by kernel_rfl
theorem sz_uintptr : sizeA Tryd.prog 12 = some 1 := by kernel_rfl
theorem ze_uintptr : zeroOf Tryd.prog 12 = some [.int .u64 0] := by kernel_rfl
theorem ce_uintptr : Tryd.prog.cellsOf 12 = 1 := by kernel_rfl
theorem un_uintptr : Tryd.prog.underlying 12 = some (.int .u64) := by kernel_rfl
theorem tk_int32 : tk Tryd.prog 21 = .one := by kernel_rfl
theorem sz_int32 : sizeA Tryd.prog 21 = some 1 := by kernel_rfl
theorem ze_int32 : zeroOf Tryd.prog 21 = some [.int .i32 0] := by kernel_rfl
theorem ce_int32 : Tryd.prog.cellsOf 21 = 1 := by kernel_rfl
theorem un_int32 : Tryd.prog.underlying 21 = some (.int .i32) := by kernel_rfl
theorem tk_S_string : tk Tryd.prog 37 = .one := by kernel_rfl
theorem sz_S_string : sizeA Tryd.prog 37 = some 1 := by kernel_rfl
theorem ze_S_string : zeroOf Tryd.prog 37 = some [.nils] := by kernel_rfl
theorem ce_S_string : Tryd.prog.cellsOf 37 = 1 := by kernel_rfl
theorem un_S_string : Tryd.prog.underlying 37 = some (.slice 9) := by kernel_rfl
theorem el_S_string : elemOfA Tryd.prog 37 = some 1 := by kernel_rfl
theorem tk_S_api_Token : tk Tryd.prog 30 = .one := by kernel_rfl
theorem sz_S_api_Token : sizeA Tryd.prog 30 = some 1 := by kernel_rfl
theorem ze_S_api_Token : zeroOf Tryd.prog 30 = some [.nils] := by kernel_rfl
theorem ce_S_api_Token : Tryd.prog.cellsOf 30 = 1 := by kernel_rfl
theorem un_S_api_Token : Tryd.prog.underlying 30 = some (.slice 39) := by kernel_rfl
theorem el_S_api_Token : elemOfA Tryd.prog 30 = some 4 := by kernel_rfl
theorem tk_api_Token : tk Tryd.prog 39 = .agg 4 := by kernel_rfl
theorem sz_api_Token : sizeA Tryd.prog 39 = some 4 := by kernel_rfl
theorem ze_api_Token : zeroOf Tryd.prog 39 = some [.int .i64 0, .str [], .int .i64 0, .int .i64 0] := by kernel_rfl
theorem ce_api_Token : Tryd.prog.cellsOf 39 = 4 := by kernel_rfl
theorem fo_api_Token_0 : fieldOff Tryd.prog 39 0 = some 0 := by kernel_rfl
theorem fo_api_Token_1 : fieldOff Tryd.prog 39 1 = some 1 := by kernel_rfl
theorem fo_api_Token_2 : fieldOff Tryd.prog 39 2 = some 2 := by kernel_rfl
theorem fo_api_Token_3 : fieldOff Tryd.prog 39 3 = some 3 := by kernel_rfl
theorem fi_api_Token_0 (l : List AV) : fieldA Tryd.prog 39 (.agg l) 0 = partA Tryd.prog 3 l 0 := by kernel_rfl
theorem fi_api_Token_1 (l : List AV) : fieldA Tryd.prog 39 (.agg l) 1 = partA Tryd.prog 9 l 1 := by kernel_rfl
theorem fi_api_Token_2 (l : List AV) : fieldA Tryd.prog 39 (.agg l) 2 = partA Tryd.prog 3 l 2 := by kernel_rfl
theorem fi_api_Token_3 (l : List AV) : fieldA Tryd.prog 39 (.agg l) 3 = partA Tryd.prog 3 l 3 := by kernel_rfl
theorem st_api_Token : StT Tryd.prog 39 [(0, 1), (1, 1), (2, 1), (3, 1)] [.int .i64 0, .str [], .int .i64 0, .int .i64 0] := ⟨⟨_, Tryd.underlying39, by kernel_rfl, by kernel_rfl⟩, ze_api_Token⟩
theorem tk_uint : tk Tryd.prog 59 = .one := by kernel_rfl
theorem sz_uint : sizeA Tryd.prog 59 = some 1 := by kernel_rfl
theorem ze_uint : zeroOf Tryd.prog 59 = some [.int .u64 0] := by kernel_rfl
theorem ce_uint : Tryd.prog.cellsOf 59 = 1 := by kernel_rfl
theorem un_uint : Tryd.prog.underlying 59 = some (.int .u64) := by kernel_rfl
theorem tk_api_Errno : tk Tryd.prog 31 = .one := by kernel_rfl
theorem sz_api_Errno : sizeA Tryd.prog 31 = some 1 := by kernel_rfl
theorem ze_api_Errno : zeroOf Tryd.prog 31 = some [.int .i64 0] := by kernel_rfl
theorem ce_api_Errno : Tryd.prog.cellsOf 31 = 1 := by kernel_rfl
theorem un_api_Errno : Tryd.prog.underlying 31 = some (.int .i64) := by kernel_rfl
theorem tk_P_sibylref2_reader : tk Tryd.prog 51 = .one := by kernel_rfl
theorem sz_P_sibylref2_reader : sizeA Tryd.prog 51 = some 1 := by kernel_rfl
theorem ze_P_sibylref2_reader : zeroOf Tryd.prog 51 = some [.nilp] := by kernel_rfl
theorem ce_P_sibylref2_reader : Tryd.prog.cellsOf 51 = 1 := by kernel_rfl
theorem un_P_sibylref2_reader : Tryd.prog.underlying 51 = some (.pointer 53) := by kernel_rfl
theorem tk_S_api_Rune : tk Tryd.prog 22 = .one := by kernel_rfl
theorem sz_S_api_Rune : sizeA Tryd.prog 22 = some 1 := by kernel_rfl
theorem ze_S_api_Rune : zeroOf Tryd.prog 22 = some [.nils] := by kernel_rfl
theorem ce_S_api_Rune : Tryd.prog.cellsOf 22 = 1 := by kernel_rfl
theorem un_S_api_Rune : Tryd.prog.underlying 22 = some (.slice 26) := by kernel_rfl
theorem el_S_api_Rune : elemOfA Tryd.prog 22 = some 2 := by kernel_rfl
theorem tk_sibylref2_reader : tk Tryd.prog 53 = .agg 4 := by kernel_rfl
theorem sz_sibylref2_reader : sizeA Tryd.prog 53 = some 4 := by kernel_rfl
theorem ze_sibylref2_reader : zeroOf Tryd.prog 53 = some [.str [], .nils, .int .i64 0, .int .i64 0] := by kernel_rfl
theorem ce_sibylref2_reader : Tryd.prog.cellsOf 53 = 4 := by kernel_rfl
theorem fo_sibylref2_reader_0 : fieldOff Tryd.prog 53 0 = some 0 := by kernel_rfl
theorem fo_sibylref2_reader_1 : fieldOff Tryd.prog 53 1 = some 1 := by kernel_rfl
theorem fo_sibylref2_reader_2 : fieldOff Tryd.prog 53 2 = some 2 := by kernel_rfl
theorem fo_sibylref2_reader_3 : fieldOff Tryd.prog 53 3 = some 3 := by kernel_rfl
theorem fi_sibylref2_reader_0 (l : List AV) : fieldA Tryd.prog 53 (.agg l) 0 = partA Tryd.prog 9 l 0 := by kernel_rfl
theorem fi_sibylref2_reader_1 (l : List AV) : fieldA Tryd.prog 53 (.agg l) 1 = partA Tryd.prog 22 l 1 := by kernel_rfl
theorem fi_sibylref2_reader_2 (l : List AV) : fieldA Tryd.prog 53 (.agg l) 2 = partA Tryd.prog 3 l 2 := by kernel_rfl
theorem fi_sibylref2_reader_3 (l : List AV) : fieldA Tryd.prog 53 (.agg l) 3 = partA Tryd.prog 3 l 3 := by kernel_rfl
theorem st_sibylref2_reader : StT Tryd.prog 53 [(0, 1), (1, 1), (2, 1), (3, 1)] [.str [], .nils, .int .i64 0, .int .i64 0] := ⟨⟨_, Tryd.underlying53, by kernel_rfl, by kernel_rfl⟩, ze_sibylref2_reader⟩
theorem tk_uint32 : tk Tryd.prog 73 = .one := by kernel_rfl
theorem sz_uint32 : sizeA Tryd.prog 73 = some 1 := by kernel_rfl
theorem ze_uint32 : zeroOf Tryd.prog 73 = some [.int .u32 0] := by kernel_rfl
theorem ce_uint32 : Tryd.prog.cellsOf 73 = 1 := by kernel_rfl
theorem un_uint32 : Tryd.prog.underlying 73 = some (.int .u32) := by kernel_rfl
theorem tk_P_lex_lexer : tk Tryd.prog 45 = .one := by kernel_rfl
theorem sz_P_lex_lexer : sizeA Tryd.prog 45 = some 1 := by kernel_rfl
theorem ze_P_lex_lexer : zeroOf Tryd.prog 45 = some [.nilp] := by kernel_rfl
theorem ce_P_lex_lexer : Tryd.prog.cellsOf 45 = 1 := by kernel_rfl
theorem un_P_lex_lexer : Tryd.prog.underlying 45 = some (.pointer 47) := by kernel_rfl
theorem tk_lex_lexer : tk Tryd.prog 47 = .agg 4 := by kernel_rfl
theorem sz_lex_lexer : sizeA Tryd.prog 47 = some 4 := by kernel_rfl
theorem ze_lex_lexer : zeroOf Tryd.prog 47 = some [.str [], .nils, .int .i64 0, .int .i64 0] := by kernel_rfl
theorem ce_lex_lexer : Tryd.prog.cellsOf 47 = 4 := by kernel_rfl
theorem fo_lex_lexer_0 : fieldOff Tryd.prog 47 0 = some 0 := by kernel_rfl
theorem fo_lex_lexer_1 : fieldOff Tryd.prog 47 1 = some 1 := by kernel_rfl
theorem fo_lex_lexer_2 : fieldOff Tryd.prog 47 2 = some 2 := by kernel_rfl
theorem fo_lex_lexer_3 : fieldOff Tryd.prog 47 3 = some 3 := by kernel_rfl
theorem fi_lex_lexer_0 (l : List AV) : fieldA Tryd.prog 47 (.agg l) 0 = partA Tryd.prog 9 l 0 := by kernel_rfl
theorem fi_lex_lexer_1 (l : List AV) : fieldA Tryd.prog 47 (.agg l) 1 = partA Tryd.prog 22 l 1 := by kernel_rfl
theorem fi_lex_lexer_2 (l : List AV) : fieldA Tryd.prog 47 (.agg l) 2 = partA Tryd.prog 3 l 2 := by kernel_rfl
theorem fi_lex_lexer_3 (l : List AV) : fieldA Tryd.prog 47 (.agg l) 3 = partA Tryd.prog 3 l 3 := by kernel_rfl
theorem st_lex_lexer : StT Tryd.prog 47 [(0, 1), (1, 1), (2, 1), (3, 1)] [.str [], .nils, .int .i64 0, .int .i64 0] := ⟨⟨_, Tryd.underlying47, by kernel_rfl, by kernel_rfl⟩, ze_lex_lexer⟩
theorem tk_api_Rune : tk Tryd.prog 26 = .agg 2 := by kernel_rfl
theorem sz_api_Rune : sizeA Tryd.prog 26 = some 2 := by kernel_rfl
theorem ze_api_Rune : zeroOf Tryd.prog 26 = some [.int .i32 0, .int .i64 0] := by kernel_rfl
theorem ce_api_Rune : Tryd.prog.cellsOf 26 = 2 := by kernel_rfl
theorem fo_api_Rune_0 : fieldOff Tryd.prog 26 0 = some 0 := by kernel_rfl
theorem fo_api_Rune_1 : fieldOff Tryd.prog 26 1 = some 1 := by kernel_rfl
theorem fi_api_Rune_0 (l : List AV) : fieldA Tryd.prog 26 (.agg l) 0 = partA Tryd.prog 21 l 0 := by kernel_rfl
theorem fi_api_Rune_1 (l : List AV) : fieldA Tryd.prog 26 (.agg l) 1 = partA Tryd.prog 3 l 1 := by kernel_rfl
theorem st_api_Rune : StT Tryd.prog 26 [(0, 1), (1, 1)] [.int .i32 0, .int .i64 0] := ⟨⟨_, Tryd.underlying26, by kernel_rfl, by kernel_rfl⟩, ze_api_Rune⟩
theorem tk_utf8_acceptRange : tk Tryd.prog 61 = .agg 2 := by kernel_rfl
theorem sz_utf8_acceptRange : sizeA Tryd.prog 61 = some 2 := by kernel_rfl
theorem ze_utf8_acceptRange : zeroOf Tryd.prog 61 = some [.int .u8 0, .int .u8 0] := by kernel_rfl
theorem ce_utf8_acceptRange : Tryd.prog.cellsOf 61 = 2 := by kernel_rfl
theorem fo_utf8_acceptRange_0 : fieldOff Tryd.prog 61 0 = some 0 := by kernel_rfl
theorem fo_utf8_acceptRange_1 : fieldOff Tryd.prog 61 1 = some 1 := by kernel_rfl
theorem fi_utf8_acceptRange_0 (l : List AV) : fieldA Tryd.prog 61 (.agg l) 0 = partA Tryd.prog 5 l 0 := by kernel_rfl
theorem fi_utf8_acceptRange_1 (l : List AV) : fieldA Tryd.prog 61 (.agg l) 1 = partA Tryd.prog 5 l 1 := by kernel_rfl
theorem st_utf8_acceptRange : StT Tryd.prog 61 [(0, 1), (1, 1)] [.int .u8 0, .int .u8 0] := ⟨⟨_, Tryd.underlying61, by kernel_rfl, by kernel_rfl⟩, ze_utf8_acceptRange⟩
theorem tk_A16_utf8_acceptRange : tk Tryd.prog 62 = .agg 32 := by kernel_rfl
theorem sz_A16_utf8_acceptRange : sizeA Tryd.prog 62 = some 32 := by kernel_rfl
theorem ze_A16_utf8_acceptRange : zeroOf Tryd.prog 62 = some [.int .u8 0, .int .u8 0, .int .u8 0, .int .u8 0, .int .u8 0, .int .u8 0, .int .u8 0, .int .u8 0, .int .u8 0, .int .u8 0, .int .u8 0, .int .u8 0, .int .u8 0, .int .u8 0, .int .u8 0, .int .u8 0, .int .u8 0, .int .u8 0, .int .u8 0, .int .u8 0, .int .u8 0, .int .u8 0, .int .u8 0, .int .u8 0, .int .u8 0, .int .u8 0, .int .u8 0, .int .u8 0, .int .u8 0, .int .u8 0, .int .u8 0, .int .u8 0] := by kernel_rfl
theorem ce_A16_utf8_acceptRange : Tryd.prog.cellsOf 62 = 32 := by kernel_rfl
theorem tk_P_uint8 : tk Tryd.prog 77 = .one := by kernel_rfl
theorem sz_P_uint8 : sizeA Tryd.prog 77 = some 1 := by kernel_rfl
theorem ze_P_uint8 : zeroOf Tryd.prog 77 = some [.nilp] := by kernel_rfl
theorem ce_P_uint8 : Tryd.prog.cellsOf 77 = 1 := by kernel_rfl
theorem un_P_uint8 : Tryd.prog.underlying 77 = some (.pointer 5) := by kernel_rfl
theorem sl_S_string : SlT Tryd.prog 37 9 1 := ⟨un_S_string, by kernel_rfl, ⟨_, ze_string, rfl⟩, by kernel_rfl, by decide, by decide +kernel⟩
theorem sl_S_api_Token : SlT Tryd.prog 30 39 4 := ⟨un_S_api_Token, by kernel_rfl, ⟨_, ze_api_Token, rfl⟩, by kernel_rfl, by decide, by decide +kernel⟩
theorem sl_S_api_Rune : SlT Tryd.prog 22 26 2 := ⟨un_S_api_Rune, by kernel_rfl, ⟨_, ze_api_Rune, rfl⟩, by kernel_rfl, by decide, by decide +kernel⟩
end Go.Proofs.YtcccnnfmhdogoaaDoor
