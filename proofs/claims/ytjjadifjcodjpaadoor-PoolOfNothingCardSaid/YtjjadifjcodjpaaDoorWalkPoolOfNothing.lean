/-
  PoolOfNothing returns true.
-/
import Derived.Test.YtjjadifjcodjpaaDoorRdZ
import Derived.Test.YtjjadifjcodjpaaDoorPln
namespace Go.Proofs.YtjjadifjcodjpaaDoor
open Go Go.RowKit
set_option linter.unusedVariables false

theorem walk_poolOfNothing {H : Type} {enc : TypeId × Value → H} {W : World} {v0 : Value} {d0 : DataW H} {p0 : List MemPlace} (h0 : DataW.Trod enc Tryd.prog W 0 (fun _ => true) true 22 v0 d0 p0) (n0 : ∀ cs, v0 ≠ .agg cs) (i : Int) (hi : -9223372036854775808 ≤ i ∧ i ≤ 9223372036854775807) (hT : TabsP W) :
    Calls Tryd.prog 6 #[v0, .int .i64 i] W fun e w' => e = .returned (.bool true) ∧ Below W.heap.size W w' := by
  obtain ⟨ml1, ks, l, _, hM1, hr, hz, hw, hc⟩ := hand_intsZ GoodM.nil h0 n0
  have := open_true (G := envP) (fun _ => rfl) envP_ok mixed (f := 6) (args := [ks, .int .i64 i]) hM1 ⟨hw, trivial, trivial⟩
    (poolOfNothing_ev (stM_fresh ml1) hr.len i) hT
  rw [show concL (plM ml1) [ks, .int .i64 i] = [v0, .int .i64 i] by rw [← hc]; rfl] at this
  exact this
end Go.Proofs.YtjjadifjcodjpaaDoor
