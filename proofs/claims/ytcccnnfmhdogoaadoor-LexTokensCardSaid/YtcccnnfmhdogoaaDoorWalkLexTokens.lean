/-
  LexTokens returns true.
-/
import Derived.Test.YtcccnnfmhdogoaaDoorLxT
namespace Go.Proofs.YtcccnnfmhdogoaaDoor
open Go Go.RowKit
set_option linter.unusedVariables false

theorem textOf_len (s : ByteArray) : (textOf s).length = s.size := by rw [← size_bytesOf, bytesOf_textOf]
theorem walk_lexTokens (s : ByteArray) (W : World) (hz : s.size ≤ 140737488351232) (hT : Tabs W) :
    Calls Tryd.prog 5 #[.string s] W fun e w' => e = .returned (.bool true) ∧ Below W.heap.size W w' := by
  have := open_true (G := envD) (fun _ => rfl) envD_ok mixed (f := 5) (args := [.str (textOf s)]) (ml := []) GoodM.nil ⟨bytes_textOf s, trivial⟩
    (lexTokens_ev (stM_fresh []) (textOf s) (bytes_textOf s) (by rw [textOf_len]; exact hz)) hT
  rw [show concL (plM []) [.str (textOf s)] = [.string s] by show [Value.string (bytesOf (textOf s))] = _; rw [bytesOf_textOf]] at this
  exact this
end Go.Proofs.YtcccnnfmhdogoaaDoor
