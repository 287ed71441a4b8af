/-
  TreeProgs returns true.
-/
import Derived.Test.YtmjnbdkjekdkgaaDoorTrE
namespace Go.Proofs.YtmjnbdkjekdkgaaDoor
open Go Go.RowKit
set_option linter.unusedVariables false

theorem walk_treeProgs {H : Type} {enc : TypeId × Value → H} {W : World} {v0 : Value} {d0 : DataW H} {p0 : List MemPlace} (h0 : DataW.Trod enc Tryd.prog W 0 (fun _ => true) true 31 v0 d0 p0) (hT : Tabs W) :
    Calls Tryd.prog 4 #[v0] W fun e w' => e = .returned (.bool true) ∧ Below W.heap.size W w' := by
  obtain ⟨ml1, cs, ⟨ds, ps, ⟨o, s, z, a, l⟩⟩, _, hM1, hk, hw, hc⟩ := hand_progR GoodM.nil h0
  have := open_true (G := envD) (fun _ => rfl) envD_ok mixed (f := 4) (args := [.agg cs]) hM1 ⟨hw, trivial⟩
    (treeProgs_ev (stM_fresh ml1) (by rw [stM_get]; exact hk)) hT
  rw [show concL (plM ml1) [.agg cs] = [v0] by rw [← hc]; rfl] at this
  exact this
end Go.Proofs.YtmjnbdkjekdkgaaDoor
