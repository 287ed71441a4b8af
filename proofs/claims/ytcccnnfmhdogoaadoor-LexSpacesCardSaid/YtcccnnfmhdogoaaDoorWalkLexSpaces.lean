/-
  LexSpaces returns true.
-/
import Derived.Test.YtcccnnfmhdogoaaDoorLxR
namespace Go.Proofs.YtcccnnfmhdogoaaDoor
open Go Go.RowKit
set_option linter.unusedVariables false

theorem textOf_lenS (s : ByteArray) : (textOf s).length = s.size := by rw [← size_bytesOf, bytesOf_textOf]
theorem lexSpaces_all {st : St} (hf : Fresh st) (l : List Nat) (hB : Bytes l) (hl : l.length ≤ 140737488351232) (w : Int) : ∃ v st', Ev Tryd.prog envD 6 [.str l, .int .i64 w] st v st' ∧ v = .bool true := by
  by_cases hw : w < 0 ∨ 3 < w
  · exact lexSpaces_evR hf l hl w hw
  · have h : w = 0 ∨ w = 1 ∨ w = 2 ∨ w = 3 := by omega
    rcases h with rfl | rfl | rfl | rfl
    · exact lexSpaces_ev0 hf l hB hl
    · exact lexSpaces_ev1 hf l hB hl
    · exact lexSpaces_ev2 hf l hB hl
    · exact lexSpaces_ev3 hf l hB hl
theorem walk_lexSpaces (s : ByteArray) (n : Int) (W : World) (hz : s.size ≤ 140737488351232) (hn : -9223372036854775808 ≤ n ∧ n ≤ 9223372036854775807) (hT : Tabs W) :
    Calls Tryd.prog 6 #[.string s, .int .i64 n] W fun e w' => e = .returned (.bool true) ∧ Below W.heap.size W w' := by
  have := open_true (G := envD) (fun _ => rfl) envD_ok mixed (f := 6) (args := [.str (textOf s), .int .i64 n]) (ml := []) GoodM.nil ⟨bytes_textOf s, trivial, trivial⟩
    (lexSpaces_all (stM_fresh []) (textOf s) (bytes_textOf s) (by rw [textOf_lenS]; exact hz) n) hT
  rw [show concL (plM []) [.str (textOf s), .int .i64 n] = [.string s, .int .i64 n] by show [Value.string (bytesOf (textOf s)), Value.int .i64 n] = _; rw [bytesOf_textOf]] at this
  exact this
end Go.Proofs.YtcccnnfmhdogoaaDoor
