/-
  Rows of rows of numbers that a call is handed.
-/
import Derived.Test.YtiknomepbklibaaDoorPcRdZ
import Derived.Test.YtiknomepbklibaaDoorPcPlq
import Derived.Test.YtiknomepbklibaaDoorProg
import Derived.Test.YtiknomepbklibaaDoorPcTyg
section
namespace Go.Proofs.YtiknomepbklibaaDoor
open Go Go.RowKit
set_option linter.unusedVariables false
set_option maxRecDepth 100000

theorem rd_listsZ {H : Type} {h : Hp} {xs : List AV} {d : DataW H} (r : Rd Tryd.prog h 23 xs d) : ∃ ks l ls, xs = [ks] ∧ LsR h l ks ls := by
 obtain ⟨ks, l, ls, e, H⟩ := rd_rowsZ (R := ListR h) [] un_S_S_int ce_S_int (fun cs d r => by
  obtain ⟨k, l, e, h1, h2⟩ := rd_intsZ r
  exact ⟨l, k, e, h1, h2⟩) r
 exact ⟨ks, l, ls, e, H⟩
end Go.Proofs.YtiknomepbklibaaDoor
end
section
namespace Go.Proofs.YtiknomepbklibaaDoor
open Go
set_option maxRecDepth 100000

theorem tk_func_int__bool : tk Tryd.prog 53 = .one := by kernel_rfl
theorem sz_func_int__bool : sizeA Tryd.prog 53 = some 1 := by kernel_rfl
theorem ze_func_int__bool : zeroOf Tryd.prog 53 = some [.nilf] := by kernel_rfl
end Go.Proofs.YtiknomepbklibaaDoor
end
