/-
  FreeNames returns true.
-/
import Derived.Test.YtmjnbdkjekdkgaaDoorFnHand
import Derived.Test.YtmjnbdkjekdkgaaDoorFnTrR
namespace Go.Proofs.YtmjnbdkjekdkgaaDoor
open Go Go.RowKit
set_option linter.unusedVariables false

theorem walk_freeNames {H : Type} {enc : TypeId × Value → H} {W : World} {v0 : Value} {d0 : DataW H} {p0 : List MemPlace} (h0 : DataW.Trod enc Tryd.prog W 0 (fun _ => true) true 24 v0 d0 p0) (hT : Tabs W) :
    Calls Tryd.prog 5 #[v0] W fun e w' => e = .returned (.bool true) ∧ Below W.heap.size W w' := by
  obtain ⟨ml1, cs, k, _, hM1, hk, hw, hc⟩ := hand_node GoodM.nil h0
  obtain ⟨o, s, z, a, l⟩ := k
  have := open_true (G := envD) (fun _ => rfl) envD_ok mixed (f := 5) (args := [.agg cs]) hM1 ⟨hw, trivial⟩
    (freeNames_ev (stM_fresh ml1) (by rw [stM_get]; exact hk)) hT
  rw [show concL (plM ml1) [.agg cs] = [v0] by rw [← hc]; rfl] at this
  exact this
end Go.Proofs.YtmjnbdkjekdkgaaDoor
