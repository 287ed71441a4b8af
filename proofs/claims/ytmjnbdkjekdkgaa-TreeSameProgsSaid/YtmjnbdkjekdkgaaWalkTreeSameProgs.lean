/-
  TreeSameProgs returns true.
-/
import Derived.Test.YtmjnbdkjekdkgaaRdG
import Derived.Test.YtmjnbdkjekdkgaaTsp
namespace Go.Proofs.Ytmjnbdkjekdkgaa
open Go Go.RowKit
set_option linter.unusedVariables false

theorem walk_treeSameProgs {H : Type} {enc : TypeId × Value → H} {W : World} {v0 v1 : Value} {d0 d1 : DataW H} {p0 p1 : List MemPlace} (h0 : DataW.Trod enc Try.prog W 0 (fun _ => true) true 32 v0 d0 p0) (h1 : DataW.Trod enc Try.prog W 0 (fun _ => true) true 32 v1 d1 p1) (n : Int) (hn : -9223372036854775808 ≤ n ∧ n ≤ 9223372036854775807) :
    Calls Try.prog 4 #[v0, v1, .int .i64 n] W fun e w' => e = .returned (.bool true) ∧ Below W.heap.size W w' := by
  obtain ⟨ml1, cs, k, _, hM1, hk, hw, hc⟩ := hand_prog GoodM.nil h0
  obtain ⟨ml2, ct, k', hp, hM2, hk', hw', hc'⟩ := hand_prog hM1 h1
  have hk := hk.mono (rowM_le hp)
  have e := concM hp hw
  replace hw := WF.grow (hpM_grow hp) _ hw
  rw [hc] at e
  have := open_true (G := envK3) (fun _ => rfl) envK3_ok mixed (f := 4) (args := [.agg cs, .agg ct, .int .i64 n]) hM2 ⟨hw, hw', trivial, trivial⟩
    (treeSameProgs_ev (stM_fresh ml2) (by rw [stM_get]; exact hk) (by rw [stM_get]; exact hk') n)
  rw [show concL (plM ml2) [.agg cs, .agg ct, .int .i64 n] = [v0, v1, .int .i64 n] by
    rw [← e, ← hc']; rfl] at this
  exact this
end Go.Proofs.Ytmjnbdkjekdkgaa
