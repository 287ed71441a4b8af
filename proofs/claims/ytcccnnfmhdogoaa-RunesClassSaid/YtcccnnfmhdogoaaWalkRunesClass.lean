/-
  The walk of 'RunesClass': it returns true.
-/
import Derived.Test.YtcccnnfmhdogoaaRunesK
namespace Go.Proofs.Ytcccnnfmhdogoaa
open Go Go.RowKit
set_option linter.unusedVariables false

theorem walk_runesClass (r : Int) (w : World) (hr : -2147483648 ≤ r ∧ r ≤ 2147483647) :
    Calls Try.prog 3 #[.int .i32 r] w fun e w' => e = .returned (.bool true) ∧ Below w.heap.size w w' := by
  go_enter Try.func3, Try.ntmps3
  go_wp2_with fail
  refine (class_any _ _).mono ?_
  rintro e w' ⟨rfl, rfl⟩
  go_wp2_with fail
  refine (ref_class _ _).mono ?_
  rintro e w' ⟨rfl, rfl⟩
  generalize classOf r = c
  have hc : (c == c) = true := by simp
  go_wp2_with fail
  refine (known1 _).mono ?_
  rintro e w' ⟨rfl, hb⟩
  go_wp2
  go_ret
  exact ⟨rfl, hb⟩

end Go.Proofs.Ytcccnnfmhdogoaa
