/-
  FreeJoin returns true.
-/
import Derived.Test.YtmjnbdkjekdkgaaDoorTrF
namespace Go.Proofs.YtmjnbdkjekdkgaaDoor
open Go Go.RowKit
set_option linter.unusedVariables false

theorem walk_freeJoin (m n : Int) (W : World) (hm : -9223372036854775808 ≤ m ∧ m ≤ 9223372036854775807) (hn : -9223372036854775808 ≤ n ∧ n ≤ 9223372036854775807) (hT : Tabs W) :
    Calls Tryd.prog 8 #[.int .i64 m, .int .i64 n] W fun e w' => e = .returned (.bool true) ∧ Below W.heap.size W w' := by
  have := open_true (G := envD) (fun _ => rfl) envD_ok mixed (f := 8) (args := [.int .i64 m, .int .i64 n]) (ml := []) GoodM.nil ⟨trivial, trivial, trivial⟩
    (freeJoin_ev (stM_fresh [])) hT
  exact this
end Go.Proofs.YtmjnbdkjekdkgaaDoor
