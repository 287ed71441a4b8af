/-
  Facts on the program's types.
-/
import Derived.Test.YtmjnbdkjekdkgaaDoorTys
import Derived.Test.YtmjnbdkjekdkgaaDoorProg
namespace Go.Proofs.YtmjnbdkjekdkgaaDoor
open Go
set_option maxRecDepth 100000

theorem tk_func__ : tk Tryd.prog 1 = .one := by kernel_rfl
theorem sz_func__ : sizeA Tryd.prog 1 = some 1 := by kernel_rfl
theorem ze_func__ : zeroOf Tryd.prog 1 = some [.nilf] := by kernel_rfl
theorem tk_func_api_Node__bool : tk Tryd.prog 25 = .one := by kernel_rfl
theorem sz_func_api_Node__bool : sizeA Tryd.prog 25 = some 1 := by kernel_rfl
theorem ze_func_api_Node__bool : zeroOf Tryd.prog 25 = some [.nilf] := by kernel_rfl
theorem tk_func_api_Node__int : tk Tryd.prog 26 = .one := by kernel_rfl
theorem sz_func_api_Node__int : sizeA Tryd.prog 26 = some 1 := by kernel_rfl
theorem ze_func_api_Node__int : zeroOf Tryd.prog 26 = some [.nilf] := by kernel_rfl
theorem tk_func___bool : tk Tryd.prog 27 = .one := by kernel_rfl
theorem sz_func___bool : sizeA Tryd.prog 27 = some 1 := by kernel_rfl
theorem ze_func___bool : zeroOf Tryd.prog 27 = some [.nilf] := by kernel_rfl
theorem tk_func_api_Prog__bool : tk Tryd.prog 34 = .one := by kernel_rfl
theorem sz_func_api_Prog__bool : sizeA Tryd.prog 34 = some 1 := by kernel_rfl
theorem ze_func_api_Prog__bool : zeroOf Tryd.prog 34 = some [.nilf] := by kernel_rfl
theorem tk_func_S_string__S_string__bool : tk Tryd.prog 35 = .one := by kernel_rfl
theorem sz_func_S_string__S_string__bool : sizeA Tryd.prog 35 = some 1 := by kernel_rfl
theorem ze_func_S_string__S_string__bool : zeroOf Tryd.prog 35 = some [.nilf] := by kernel_rfl
theorem tk_func_api_Node__S_string : tk Tryd.prog 37 = .one := by kernel_rfl
theorem sz_func_api_Node__S_string : sizeA Tryd.prog 37 = some 1 := by kernel_rfl
theorem ze_func_api_Node__S_string : zeroOf Tryd.prog 37 = some [.nilf] := by kernel_rfl
theorem tk_func_api_Node__S_string__S_api_Node__bool : tk Tryd.prog 38 = .one := by kernel_rfl
theorem sz_func_api_Node__S_string__S_api_Node__bool : sizeA Tryd.prog 38 = some 1 := by kernel_rfl
theorem ze_func_api_Node__S_string__S_api_Node__bool : zeroOf Tryd.prog 38 = some [.nilf] := by kernel_rfl
theorem tk_func_S_string__string__S_string : tk Tryd.prog 39 = .one := by kernel_rfl
theorem sz_func_S_string__string__S_string : sizeA Tryd.prog 39 = some 1 := by kernel_rfl
theorem ze_func_S_string__string__S_string : zeroOf Tryd.prog 39 = some [.nilf] := by kernel_rfl
theorem tk_func_api_Node__S_string__S_api_Node__api_Node : tk Tryd.prog 40 = .one := by kernel_rfl
theorem sz_func_api_Node__S_string__S_api_Node__api_Node : sizeA Tryd.prog 40 = some 1 := by kernel_rfl
theorem ze_func_api_Node__S_string__S_api_Node__api_Node : zeroOf Tryd.prog 40 = some [.nilf] := by kernel_rfl
theorem tk_func_api_Node__string__api_Node__bool : tk Tryd.prog 41 = .one := by kernel_rfl
theorem sz_func_api_Node__string__api_Node__bool : sizeA Tryd.prog 41 = some 1 := by kernel_rfl
theorem ze_func_api_Node__string__api_Node__bool : zeroOf Tryd.prog 41 = some [.nilf] := by kernel_rfl
theorem tk_func_api_Node__api_Node__bool : tk Tryd.prog 42 = .one := by kernel_rfl
theorem sz_func_api_Node__api_Node__bool : sizeA Tryd.prog 42 = some 1 := by kernel_rfl
theorem ze_func_api_Node__api_Node__bool : zeroOf Tryd.prog 42 = some [.nilf] := by kernel_rfl
theorem tk_func_api_Node__string__bool : tk Tryd.prog 43 = .one := by kernel_rfl
theorem sz_func_api_Node__string__bool : sizeA Tryd.prog 43 = some 1 := by kernel_rfl
theorem ze_func_api_Node__string__bool : zeroOf Tryd.prog 43 = some [.nilf] := by kernel_rfl
theorem tk_func_api_Node__api_Node : tk Tryd.prog 44 = .one := by kernel_rfl
theorem sz_func_api_Node__api_Node : sizeA Tryd.prog 44 = some 1 := by kernel_rfl
theorem ze_func_api_Node__api_Node : zeroOf Tryd.prog 44 = some [.nilf] := by kernel_rfl
theorem tk_func_int__int__bool : tk Tryd.prog 45 = .one := by kernel_rfl
theorem sz_func_int__int__bool : sizeA Tryd.prog 45 = some 1 := by kernel_rfl
theorem ze_func_int__int__bool : zeroOf Tryd.prog 45 = some [.nilf] := by kernel_rfl
theorem tk_func_S_string__string__bool : tk Tryd.prog 46 = .one := by kernel_rfl
theorem sz_func_S_string__string__bool : sizeA Tryd.prog 46 = some 1 := by kernel_rfl
theorem ze_func_S_string__string__bool : zeroOf Tryd.prog 46 = some [.nilf] := by kernel_rfl
theorem tk_func_api_Node__string__int__api_Node__bool : tk Tryd.prog 47 = .one := by kernel_rfl
theorem sz_func_api_Node__string__int__api_Node__bool : sizeA Tryd.prog 47 = some 1 := by kernel_rfl
theorem ze_func_api_Node__string__int__api_Node__bool : zeroOf Tryd.prog 47 = some [.nilf] := by kernel_rfl
theorem tk_func_api_Node__int__int : tk Tryd.prog 48 = .one := by kernel_rfl
theorem sz_func_api_Node__int__int : sizeA Tryd.prog 48 = some 1 := by kernel_rfl
theorem ze_func_api_Node__int__int : zeroOf Tryd.prog 48 = some [.nilf] := by kernel_rfl
theorem tk_func_S_api_Decl__bool : tk Tryd.prog 49 = .one := by kernel_rfl
theorem sz_func_S_api_Decl__bool : sizeA Tryd.prog 49 = some 1 := by kernel_rfl
theorem ze_func_S_api_Decl__bool : zeroOf Tryd.prog 49 = some [.nilf] := by kernel_rfl
theorem tk_func_S_api_Pred__func_api_Pred__bool__bool : tk Tryd.prog 50 = .one := by kernel_rfl
theorem sz_func_S_api_Pred__func_api_Pred__bool__bool : sizeA Tryd.prog 50 = some 1 := by kernel_rfl
theorem ze_func_S_api_Pred__func_api_Pred__bool__bool : zeroOf Tryd.prog 50 = some [.nilf] := by kernel_rfl
theorem tk_func_api_Pred__bool : tk Tryd.prog 51 = .one := by kernel_rfl
theorem sz_func_api_Pred__bool : sizeA Tryd.prog 51 = some 1 := by kernel_rfl
theorem ze_func_api_Pred__bool : zeroOf Tryd.prog 51 = some [.nilf] := by kernel_rfl
theorem tk_func_string__bool : tk Tryd.prog 52 = .one := by kernel_rfl
theorem sz_func_string__bool : sizeA Tryd.prog 52 = some 1 := by kernel_rfl
theorem ze_func_string__bool : zeroOf Tryd.prog 52 = some [.nilf] := by kernel_rfl
theorem tk_func_api_Node__S_string__S_string : tk Tryd.prog 53 = .one := by kernel_rfl
theorem sz_func_api_Node__S_string__S_string : sizeA Tryd.prog 53 = some 1 := by kernel_rfl
theorem ze_func_api_Node__S_string__S_string : zeroOf Tryd.prog 53 = some [.nilf] := by kernel_rfl
theorem tk_func_S_string_ : tk Tryd.prog 54 = .one := by kernel_rfl
theorem sz_func_S_string_ : sizeA Tryd.prog 54 = some 1 := by kernel_rfl
theorem ze_func_S_string_ : zeroOf Tryd.prog 54 = some [.nilf] := by kernel_rfl
theorem tk_func_S_string__S_string : tk Tryd.prog 55 = .one := by kernel_rfl
theorem sz_func_S_string__S_string : sizeA Tryd.prog 55 = some 1 := by kernel_rfl
theorem ze_func_S_string__S_string : zeroOf Tryd.prog 55 = some [.nilf] := by kernel_rfl
theorem tk_func_string__api_Node : tk Tryd.prog 56 = .one := by kernel_rfl
theorem sz_func_string__api_Node : sizeA Tryd.prog 56 = some 1 := by kernel_rfl
theorem ze_func_string__api_Node : zeroOf Tryd.prog 56 = some [.nilf] := by kernel_rfl
theorem tk_func_api_Node__int__bool : tk Tryd.prog 59 = .one := by kernel_rfl
theorem sz_func_api_Node__int__bool : sizeA Tryd.prog 59 = some 1 := by kernel_rfl
theorem ze_func_api_Node__int__bool : zeroOf Tryd.prog 59 = some [.nilf] := by kernel_rfl
theorem tk_func_api_Node__func_api_Node__bool__bool : tk Tryd.prog 60 = .one := by kernel_rfl
theorem sz_func_api_Node__func_api_Node__bool__bool : sizeA Tryd.prog 60 = some 1 := by kernel_rfl
theorem ze_func_api_Node__func_api_Node__bool__bool : zeroOf Tryd.prog 60 = some [.nilf] := by kernel_rfl
theorem tk_func_api_Node__int__bool__bool__bool : tk Tryd.prog 61 = .one := by kernel_rfl
theorem sz_func_api_Node__int__bool__bool__bool : sizeA Tryd.prog 61 = some 1 := by kernel_rfl
theorem ze_func_api_Node__int__bool__bool__bool : zeroOf Tryd.prog 61 = some [.nilf] := by kernel_rfl
theorem tk_func_S_api_Decl__func_api_Decl__bool__bool : tk Tryd.prog 62 = .one := by kernel_rfl
theorem sz_func_S_api_Decl__func_api_Decl__bool__bool : sizeA Tryd.prog 62 = some 1 := by kernel_rfl
theorem ze_func_S_api_Decl__func_api_Decl__bool__bool : zeroOf Tryd.prog 62 = some [.nilf] := by kernel_rfl
theorem tk_func_api_Decl__bool : tk Tryd.prog 65 = .one := by kernel_rfl
theorem sz_func_api_Decl__bool : sizeA Tryd.prog 65 = some 1 := by kernel_rfl
theorem ze_func_api_Decl__bool : zeroOf Tryd.prog 65 = some [.nilf] := by kernel_rfl
theorem tk_func_S_api_Pred__func_api_Pred__bool__int : tk Tryd.prog 66 = .one := by kernel_rfl
theorem sz_func_S_api_Pred__func_api_Pred__bool__int : sizeA Tryd.prog 66 = some 1 := by kernel_rfl
theorem ze_func_S_api_Pred__func_api_Pred__bool__int : zeroOf Tryd.prog 66 = some [.nilf] := by kernel_rfl
theorem tk_func_string___S_api_Token__int__int_ : tk Tryd.prog 69 = .one := by kernel_rfl
theorem sz_func_string___S_api_Token__int__int_ : sizeA Tryd.prog 69 = some 1 := by kernel_rfl
theorem ze_func_string___S_api_Token__int__int_ : zeroOf Tryd.prog 69 = some [.nilf] := by kernel_rfl
theorem tk_func_S_string__int__int__int_ : tk Tryd.prog 72 = .one := by kernel_rfl
theorem sz_func_S_string__int__int__int_ : sizeA Tryd.prog 72 = some 1 := by kernel_rfl
theorem ze_func_S_string__int__int__int_ : zeroOf Tryd.prog 72 = some [.nilf] := by kernel_rfl
theorem tk_func_uint__int : tk Tryd.prog 73 = .one := by kernel_rfl
theorem sz_func_uint__int : sizeA Tryd.prog 73 = some 1 := by kernel_rfl
theorem ze_func_uint__int : zeroOf Tryd.prog 73 = some [.nilf] := by kernel_rfl
theorem tk_func_string___api_Prog__int__int_ : tk Tryd.prog 76 = .one := by kernel_rfl
theorem sz_func_string___api_Prog__int__int_ : sizeA Tryd.prog 76 = some 1 := by kernel_rfl
theorem ze_func_string___api_Prog__int__int_ : zeroOf Tryd.prog 76 = some [.nilf] := by kernel_rfl
theorem tk_func_string___api_Node__bool_ : tk Tryd.prog 78 = .one := by kernel_rfl
theorem sz_func_string___api_Node__bool_ : sizeA Tryd.prog 78 = some 1 := by kernel_rfl
theorem ze_func_string___api_Node__bool_ : zeroOf Tryd.prog 78 = some [.nilf] := by kernel_rfl
theorem tk_func_S_api_Node__func_api_Node__bool__bool : tk Tryd.prog 79 = .one := by kernel_rfl
theorem sz_func_S_api_Node__func_api_Node__bool__bool : sizeA Tryd.prog 79 = some 1 := by kernel_rfl
theorem ze_func_S_api_Node__func_api_Node__bool__bool : zeroOf Tryd.prog 79 = some [.nilf] := by kernel_rfl
theorem tk_func_string___S_api_Token__int__api_Errno_ : tk Tryd.prog 82 = .one := by kernel_rfl
theorem sz_func_string___S_api_Token__int__api_Errno_ : sizeA Tryd.prog 82 = some 1 := by kernel_rfl
theorem ze_func_string___S_api_Token__int__api_Errno_ : zeroOf Tryd.prog 82 = some [.nilf] := by kernel_rfl
theorem tk_func_S_api_Decl__func_api_Decl__bool__int : tk Tryd.prog 83 = .one := by kernel_rfl
theorem sz_func_S_api_Decl__func_api_Decl__bool__int : sizeA Tryd.prog 83 = some 1 := by kernel_rfl
theorem ze_func_S_api_Decl__func_api_Decl__bool__int : zeroOf Tryd.prog 83 = some [.nilf] := by kernel_rfl
theorem tk_func_string___S_api_Rune__int_ : tk Tryd.prog 89 = .one := by kernel_rfl
theorem sz_func_string___S_api_Rune__int_ : sizeA Tryd.prog 89 = some 1 := by kernel_rfl
theorem ze_func_string___S_api_Rune__int_ : zeroOf Tryd.prog 89 = some [.nilf] := by kernel_rfl
theorem tk_func_int__int : tk Tryd.prog 90 = .one := by kernel_rfl
theorem sz_func_int__int : sizeA Tryd.prog 90 = some 1 := by kernel_rfl
theorem ze_func_int__int : zeroOf Tryd.prog 90 = some [.nilf] := by kernel_rfl
theorem tk_func____api_Token__bool_ : tk Tryd.prog 92 = .one := by kernel_rfl
theorem sz_func____api_Token__bool_ : sizeA Tryd.prog 92 = some 1 := by kernel_rfl
theorem ze_func____api_Token__bool_ : zeroOf Tryd.prog 92 = some [.nilf] := by kernel_rfl
theorem tk_func_S_string__string__int : tk Tryd.prog 93 = .one := by kernel_rfl
theorem sz_func_S_string__string__int : sizeA Tryd.prog 93 = some 1 := by kernel_rfl
theorem ze_func_S_string__string__int : zeroOf Tryd.prog 93 = some [.nilf] := by kernel_rfl
theorem tk_func_S_string__int__int_ : tk Tryd.prog 94 = .one := by kernel_rfl
theorem sz_func_S_string__int__int_ : sizeA Tryd.prog 94 = some 1 := by kernel_rfl
theorem ze_func_S_string__int__int_ : zeroOf Tryd.prog 94 = some [.nilf] := by kernel_rfl
theorem tk_func_S_string__int__int___int__slices_sortedHint_ : tk Tryd.prog 97 = .one := by kernel_rfl
theorem sz_func_S_string__int__int___int__slices_sortedHint_ : sizeA Tryd.prog 97 = some 1 := by kernel_rfl
theorem ze_func_S_string__int__int___int__slices_sortedHint_ : zeroOf Tryd.prog 97 = some [.nilf] := by kernel_rfl
theorem tk_func_S_string__int__int__bool : tk Tryd.prog 98 = .one := by kernel_rfl
theorem sz_func_S_string__int__int__bool : sizeA Tryd.prog 98 = some 1 := by kernel_rfl
theorem ze_func_S_string__int__int__bool : zeroOf Tryd.prog 98 = some [.nilf] := by kernel_rfl
theorem tk_func_string__string__bool : tk Tryd.prog 99 = .one := by kernel_rfl
theorem sz_func_string__string__bool : sizeA Tryd.prog 99 = some 1 := by kernel_rfl
theorem ze_func_string__string__bool : zeroOf Tryd.prog 99 = some [.nilf] := by kernel_rfl
theorem tk_func_S_string__int__int__int__int : tk Tryd.prog 100 = .one := by kernel_rfl
theorem sz_func_S_string__int__int__int__int : sizeA Tryd.prog 100 = some 1 := by kernel_rfl
theorem ze_func_S_string__int__int__int__int : zeroOf Tryd.prog 100 = some [.nilf] := by kernel_rfl
theorem tk_func_S_string__int__int__int___int__bool_ : tk Tryd.prog 102 = .one := by kernel_rfl
theorem sz_func_S_string__int__int__int___int__bool_ : sizeA Tryd.prog 102 = some 1 := by kernel_rfl
theorem ze_func_S_string__int__int__int___int__bool_ : zeroOf Tryd.prog 102 = some [.nilf] := by kernel_rfl
theorem tk_func_uint32__int : tk Tryd.prog 103 = .one := by kernel_rfl
theorem sz_func_uint32__int : sizeA Tryd.prog 103 = some 1 := by kernel_rfl
theorem ze_func_uint32__int : zeroOf Tryd.prog 103 = some [.nilf] := by kernel_rfl
theorem tk_func_uint64__int : tk Tryd.prog 105 = .one := by kernel_rfl
theorem sz_func_uint64__int : sizeA Tryd.prog 105 = some 1 := by kernel_rfl
theorem ze_func_uint64__int : zeroOf Tryd.prog 105 = some [.nilf] := by kernel_rfl
theorem tk_func_string__int : tk Tryd.prog 110 = .one := by kernel_rfl
theorem sz_func_string__int : sizeA Tryd.prog 110 = some 1 := by kernel_rfl
theorem ze_func_string__int : zeroOf Tryd.prog 110 = some [.nilf] := by kernel_rfl
theorem tk_func___api_Pred : tk Tryd.prog 111 = .one := by kernel_rfl
theorem sz_func___api_Pred : sizeA Tryd.prog 111 = some 1 := by kernel_rfl
theorem ze_func___api_Pred : zeroOf Tryd.prog 111 = some [.nilf] := by kernel_rfl
theorem tk_func___S_api_Decl : tk Tryd.prog 112 = .one := by kernel_rfl
theorem sz_func___S_api_Decl : sizeA Tryd.prog 112 = some 1 := by kernel_rfl
theorem ze_func___S_api_Decl : zeroOf Tryd.prog 112 = some [.nilf] := by kernel_rfl
theorem tk_func_int__api_Node : tk Tryd.prog 113 = .one := by kernel_rfl
theorem sz_func_int__api_Node : sizeA Tryd.prog 113 = some 1 := by kernel_rfl
theorem ze_func_int__api_Node : zeroOf Tryd.prog 113 = some [.nilf] := by kernel_rfl
theorem tk_func_string_ : tk Tryd.prog 114 = .one := by kernel_rfl
theorem sz_func_string_ : sizeA Tryd.prog 114 = some 1 := by kernel_rfl
theorem ze_func_string_ : zeroOf Tryd.prog 114 = some [.nilf] := by kernel_rfl
theorem tk_func___api_Token : tk Tryd.prog 115 = .one := by kernel_rfl
theorem sz_func___api_Token : sizeA Tryd.prog 115 = some 1 := by kernel_rfl
theorem ze_func___api_Token : zeroOf Tryd.prog 115 = some [.nilf] := by kernel_rfl
theorem tk_func_int__int_ : tk Tryd.prog 116 = .one := by kernel_rfl
theorem sz_func_int__int_ : sizeA Tryd.prog 116 = some 1 := by kernel_rfl
theorem ze_func_int__int_ : zeroOf Tryd.prog 116 = some [.nilf] := by kernel_rfl
theorem tk_func_api_Node__string__free_put : tk Tryd.prog 117 = .one := by kernel_rfl
theorem sz_func_api_Node__string__free_put : sizeA Tryd.prog 117 = some 1 := by kernel_rfl
theorem ze_func_api_Node__string__free_put : zeroOf Tryd.prog 117 = some [.nilf] := by kernel_rfl
theorem tk_func_string__S_string__string : tk Tryd.prog 118 = .one := by kernel_rfl
theorem sz_func_string__S_string__string : sizeA Tryd.prog 118 = some 1 := by kernel_rfl
theorem ze_func_string__S_string__string : zeroOf Tryd.prog 118 = some [.nilf] := by kernel_rfl
theorem tk_func_S_api_Node__func_api_Node__bool__int : tk Tryd.prog 119 = .one := by kernel_rfl
theorem sz_func_S_api_Node__func_api_Node__bool__int : sizeA Tryd.prog 119 = some 1 := by kernel_rfl
theorem ze_func_S_api_Node__func_api_Node__bool__int : zeroOf Tryd.prog 119 = some [.nilf] := by kernel_rfl
theorem tk_func___int : tk Tryd.prog 123 = .one := by kernel_rfl
theorem sz_func___int : sizeA Tryd.prog 123 = some 1 := by kernel_rfl
theorem ze_func___int : zeroOf Tryd.prog 123 = some [.nilf] := by kernel_rfl
theorem tk_func_string___int32__int_ : tk Tryd.prog 125 = .one := by kernel_rfl
theorem sz_func_string___int32__int_ : sizeA Tryd.prog 125 = some 1 := by kernel_rfl
theorem ze_func_string___int32__int_ : zeroOf Tryd.prog 125 = some [.nilf] := by kernel_rfl
theorem tk_func_int__int32__bool : tk Tryd.prog 128 = .one := by kernel_rfl
theorem sz_func_int__int32__bool : sizeA Tryd.prog 128 = some 1 := by kernel_rfl
theorem ze_func_int__int32__bool : zeroOf Tryd.prog 128 = some [.nilf] := by kernel_rfl
theorem tk_func_int__uint : tk Tryd.prog 130 = .one := by kernel_rfl
theorem sz_func_int__uint : sizeA Tryd.prog 130 = some 1 := by kernel_rfl
theorem ze_func_int__uint : zeroOf Tryd.prog 130 = some [.nilf] := by kernel_rfl
theorem tk_func___uint64 : tk Tryd.prog 131 = .one := by kernel_rfl
theorem sz_func___uint64 : sizeA Tryd.prog 131 = some 1 := by kernel_rfl
theorem ze_func___uint64 : zeroOf Tryd.prog 131 = some [.nilf] := by kernel_rfl
theorem tk_func_S_string__int__P_int__int : tk Tryd.prog 132 = .one := by kernel_rfl
theorem sz_func_S_string__int__P_int__int : sizeA Tryd.prog 132 = some 1 := by kernel_rfl
theorem ze_func_S_string__int__P_int__int : zeroOf Tryd.prog 132 = some [.nilf] := by kernel_rfl
theorem tk_func_S_string__int__int__int__P_int__int : tk Tryd.prog 134 = .one := by kernel_rfl
theorem sz_func_S_string__int__int__int__P_int__int : sizeA Tryd.prog 134 = some 1 := by kernel_rfl
theorem ze_func_S_string__int__int__int__P_int__int : zeroOf Tryd.prog 134 = some [.nilf] := by kernel_rfl
theorem tk_func_int__bool : tk Tryd.prog 136 = .one := by kernel_rfl
theorem sz_func_int__bool : sizeA Tryd.prog 136 = some 1 := by kernel_rfl
theorem ze_func_int__bool : zeroOf Tryd.prog 136 = some [.nilf] := by kernel_rfl
theorem tk_func_string__int__int32__bool : tk Tryd.prog 137 = .one := by kernel_rfl
theorem sz_func_string__int__int32__bool : sizeA Tryd.prog 137 = some 1 := by kernel_rfl
theorem ze_func_string__int__int32__bool : zeroOf Tryd.prog 137 = some [.nilf] := by kernel_rfl
theorem tk_func_int32__int : tk Tryd.prog 138 = .one := by kernel_rfl
theorem sz_func_int32__int : sizeA Tryd.prog 138 = some 1 := by kernel_rfl
theorem ze_func_int32__int : zeroOf Tryd.prog 138 = some [.nilf] := by kernel_rfl
theorem tk_func_S_string__int__int__P_int___int__int_ : tk Tryd.prog 141 = .one := by kernel_rfl
theorem sz_func_S_string__int__int__P_int___int__int_ : sizeA Tryd.prog 141 = some 1 := by kernel_rfl
theorem ze_func_S_string__int__int__P_int___int__int_ : zeroOf Tryd.prog 141 = some [.nilf] := by kernel_rfl
theorem tk_func___S_string : tk Tryd.prog 142 = .one := by kernel_rfl
theorem sz_func___S_string : sizeA Tryd.prog 142 = some 1 := by kernel_rfl
theorem ze_func___S_string : zeroOf Tryd.prog 142 = some [.nilf] := by kernel_rfl
theorem tk_func_int32__bool : tk Tryd.prog 147 = .one := by kernel_rfl
theorem sz_func_int32__bool : sizeA Tryd.prog 147 = some 1 := by kernel_rfl
theorem ze_func_int32__bool : zeroOf Tryd.prog 147 = some [.nilf] := by kernel_rfl
theorem tk_func___api_Node : tk Tryd.prog 148 = .one := by kernel_rfl
theorem sz_func___api_Node : sizeA Tryd.prog 148 = some 1 := by kernel_rfl
theorem ze_func___api_Node : zeroOf Tryd.prog 148 = some [.nilf] := by kernel_rfl
theorem tk_func_string__bool__S_api_Node : tk Tryd.prog 149 = .one := by kernel_rfl
theorem sz_func_string__bool__S_api_Node : sizeA Tryd.prog 149 = some 1 := by kernel_rfl
theorem ze_func_string__bool__S_api_Node : zeroOf Tryd.prog 149 = some [.nilf] := by kernel_rfl
theorem tk_func___string : tk Tryd.prog 150 = .one := by kernel_rfl
theorem sz_func___string : sizeA Tryd.prog 150 = some 1 := by kernel_rfl
theorem ze_func___string : zeroOf Tryd.prog 150 = some [.nilf] := by kernel_rfl
theorem tk_func_bool__api_Node : tk Tryd.prog 151 = .one := by kernel_rfl
theorem sz_func_bool__api_Node : sizeA Tryd.prog 151 = some 1 := by kernel_rfl
theorem ze_func_bool__api_Node : zeroOf Tryd.prog 151 = some [.nilf] := by kernel_rfl
end Go.Proofs.YtmjnbdkjekdkgaaDoor
