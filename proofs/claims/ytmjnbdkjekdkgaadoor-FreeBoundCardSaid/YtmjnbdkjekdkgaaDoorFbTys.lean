/-
  Facts on the program's types.
-/
import Derived.Test.YtmjnbdkjekdkgaaDoorProg
import Derived.Test.YtmjnbdkjekdkgaaDoorFbSy2
namespace Go.Proofs.YtmjnbdkjekdkgaaDoor
open Go
set_option maxRecDepth 100000

theorem Ju : tk Tryd.prog 3 = .one := by kernel_rfl
theorem sz_int : sizeA Tryd.prog 3 = some 1 := by kernel_rfl
theorem un_int : Tryd.prog.underlying 3 = some (.int .i64) := by kernel_rfl
theorem un_uint8 : Tryd.prog.underlying 5 = some (.int .u8) := by kernel_rfl
theorem Qx : tk Tryd.prog 9 = .one := by kernel_rfl
theorem sz_string : sizeA Tryd.prog 9 = some 1 := by kernel_rfl
theorem ze_string : zeroOf Tryd.prog 9 = some [.str []] := by kernel_rfl
theorem un_string : Tryd.prog.underlying 9 = some (.string) := by kernel_rfl
theorem tk_int32 : tk Tryd.prog 21 = .one := by kernel_rfl
theorem un_int32 : Tryd.prog.underlying 21 = some (.int .i32) := by kernel_rfl
theorem Qu : tk Tryd.prog 22 = .one := by kernel_rfl
theorem sz_S_api_Node : sizeA Tryd.prog 22 = some 1 := by kernel_rfl
theorem Q9 : Tryd.prog.underlying 22 = some (.slice 24) := by kernel_rfl
theorem Jf : elemOfA Tryd.prog 22 = some 5 := by kernel_rfl
theorem Qi : tk Tryd.prog 24 = .agg 5 := by kernel_rfl
theorem Q6 : sizeA Tryd.prog 24 = some 5 := by kernel_rfl
theorem Jd : zeroOf Tryd.prog 24 = some [.str [], .str [], .int .i64 0, .int .i64 0, .nils] := by kernel_rfl
theorem Je : fieldOff Tryd.prog 24 0 = some 0 := by kernel_rfl
theorem Ja : fieldOff Tryd.prog 24 1 = some 1 := by kernel_rfl
theorem Jp : fieldOff Tryd.prog 24 2 = some 2 := by kernel_rfl
theorem fo_api_Node_3 : fieldOff Tryd.prog 24 3 = some 3 := by kernel_rfl
theorem Qw : fieldOff Tryd.prog 24 4 = some 4 := by kernel_rfl
theorem st_api_Node : StT Tryd.prog 24 [(0, 1), (1, 1), (2, 1), (3, 1), (4, 1)] [.str [], .str [], .int .i64 0, .int .i64 0, .nils] := ⟨⟨_, Tryd.underlying24, by kernel_rfl, by kernel_rfl⟩, Jd⟩
theorem tk_S_string : tk Tryd.prog 36 = .one := by kernel_rfl
theorem sz_S_string : sizeA Tryd.prog 36 = some 1 := by kernel_rfl
theorem un_S_string : Tryd.prog.underlying 36 = some (.slice 9) := by kernel_rfl
theorem el_S_string : elemOfA Tryd.prog 36 = some 1 := by kernel_rfl
theorem Ug : tk Tryd.prog 58 = .agg 2 := by kernel_rfl
theorem sz_free_put : sizeA Tryd.prog 58 = some 2 := by kernel_rfl
theorem ze_free_put : zeroOf Tryd.prog 58 = some [.nils, .nils] := by kernel_rfl
theorem fo_free_put_0 : fieldOff Tryd.prog 58 0 = some 0 := by kernel_rfl
theorem fo_free_put_1 : fieldOff Tryd.prog 58 1 = some 1 := by kernel_rfl
theorem st_free_put : StT Tryd.prog 58 [(0, 1), (1, 1)] [.nils, .nils] := ⟨⟨_, Tryd.underlying58, by kernel_rfl, by kernel_rfl⟩, ze_free_put⟩
theorem un_S_api_Token : Tryd.prog.underlying 67 = some (.slice 71) := by kernel_rfl
theorem el_S_api_Token : elemOfA Tryd.prog 67 = some 4 := by kernel_rfl
theorem Jw : tk Tryd.prog 71 = .agg 4 := by kernel_rfl
theorem J1 : sizeA Tryd.prog 71 = some 4 := by kernel_rfl
theorem Ue : zeroOf Tryd.prog 71 = some [.int .i64 0, .str [], .int .i64 0, .int .i64 0] := by kernel_rfl
theorem fo_api_Token_0 : fieldOff Tryd.prog 71 0 = some 0 := by kernel_rfl
theorem fo_api_Token_1 : fieldOff Tryd.prog 71 1 = some 1 := by kernel_rfl
theorem fo_api_Token_2 : fieldOff Tryd.prog 71 2 = some 2 := by kernel_rfl
theorem fo_api_Token_3 : fieldOff Tryd.prog 71 3 = some 3 := by kernel_rfl
theorem st_api_Token : StT Tryd.prog 71 [(0, 1), (1, 1), (2, 1), (3, 1)] [.int .i64 0, .str [], .int .i64 0, .int .i64 0] := ⟨⟨_, Tryd.underlying71, by kernel_rfl, by kernel_rfl⟩, Ue⟩
theorem Uj : tk Tryd.prog 85 = .one := by kernel_rfl
theorem sz_S_api_Rune : sizeA Tryd.prog 85 = some 1 := by kernel_rfl
theorem un_S_api_Rune : Tryd.prog.underlying 85 = some (.slice 127) := by kernel_rfl
theorem el_S_api_Rune : elemOfA Tryd.prog 85 = some 2 := by kernel_rfl
theorem ze_sibylref2_reader : zeroOf Tryd.prog 87 = some [.str [], .nils, .int .i64 0, .int .i64 0] := by kernel_rfl
theorem fo_sibylref2_reader_0 : fieldOff Tryd.prog 87 0 = some 0 := by kernel_rfl
theorem Jh : fieldOff Tryd.prog 87 1 = some 1 := by kernel_rfl
theorem fo_sibylref2_reader_2 : fieldOff Tryd.prog 87 2 = some 2 := by kernel_rfl
theorem Qv : fieldOff Tryd.prog 87 3 = some 3 := by kernel_rfl
theorem st_sibylref2_reader : StT Tryd.prog 87 [(0, 1), (1, 1), (2, 1), (3, 1)] [.str [], .nils, .int .i64 0, .int .i64 0] := ⟨⟨_, Tryd.underlying87, by kernel_rfl, by kernel_rfl⟩, ze_sibylref2_reader⟩
theorem fo_api_Rune_0 : fieldOff Tryd.prog 127 0 = some 0 := by kernel_rfl
theorem fo_api_Rune_1 : fieldOff Tryd.prog 127 1 = some 1 := by kernel_rfl
theorem J4 : SlT Tryd.prog 22 24 5 := ⟨Q9, by kernel_rfl, ⟨_, Jd, rfl⟩, by kernel_rfl, by decide, by decide +kernel⟩
theorem Jv : SlT Tryd.prog 36 9 1 := ⟨un_S_string, by kernel_rfl, ⟨_, ze_string, rfl⟩, by kernel_rfl, by decide, by decide +kernel⟩
theorem sl_S_api_Token : SlT Tryd.prog 67 71 4 := ⟨un_S_api_Token, by kernel_rfl, ⟨_, Ue, rfl⟩, by kernel_rfl, by decide, by decide +kernel⟩
end Go.Proofs.YtmjnbdkjekdkgaaDoor
