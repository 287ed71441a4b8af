/-
  ProjCloses returns true.
-/
import Derived.Test.YtiknomepbklibaaDoorPcPjl
import Derived.Test.YtiknomepbklibaaDoorPcRdA
namespace Go.Proofs.YtiknomepbklibaaDoor
open Go Go.RowKit
set_option linter.unusedVariables false

theorem projCloses_ev {st : St} (hf : Fresh st) {t : Int} {acc : List Bool} {nx : List (List Int)} {ka kn : AV} (hA : AutoR st.h.get t acc nx ka kn) (k : Int) : ∃ v st', Ev Tryd.prog envP 3 [.agg [.int .i64 t, ka, kn], .int .i64 k] st v st' ∧ v = .bool true := by
 obtain ⟨h1, ls, h2⟩ := hA
 by_cases hk : 0 ≤ k ∧ k < t
 ·exact projClosesYes_ev hf h1 h2 hk
 ·exact projClosesNo_ev hf h1 h2 hk
theorem walk_projCloses {H : Type} {enc : TypeId × Value → H} {W : World} {v0 : Value} {d0 : DataW H} {p0 : List MemPlace} (h0 : DataW.Trod enc Tryd.prog W 0 (fun _ => true) true 25 v0 d0 p0) (k : Int) (hk : -9223372036854775808 ≤ k ∧ k ≤ 9223372036854775807) (hT : TabsP W) :
  Calls Tryd.prog 3 #[v0, .int .i64 k] W fun e w' => e = .returned (.bool true) ∧ Below W.heap.size W w' := by
 obtain ⟨ml1, t, acc, nx, ka, kn, _, hM1, hA, hw, hc⟩ := hand_auto GoodM.nil h0
 have := open_true (G := envP) (fun _ => rfl) envP_ok mixed (f := 3) (args := [.agg [.int .i64 t, ka, kn], .int .i64 k]) hM1 ⟨hw, trivial, trivial⟩
  (projCloses_ev (stM_fresh ml1) (by rw [stM_get]; exact hA) k) hT
 rw [show concL (plM ml1) [.agg [.int .i64 t, ka, kn], .int .i64 k] = [v0, .int .i64 k] by rw [← hc]; rfl] at this
 exact this
end Go.Proofs.YtiknomepbklibaaDoor
