/-
  Calls with open arguments: from the reckoner to the model.
-/
import Derived.Test.YtmjnbdkjekdkgaaLift
namespace Go.Proofs.Ytmjnbdkjekdkgaa
open Go Go.RowKit
set_option linter.unusedVariables false

noncomputable section
/-- The state at the start of a call. -/
def stM (ml : Mbs) : St := ⟨1, Tr.nil.set 0 (clsM ml)⟩
end
theorem stM_get (ml : Mbs) : (stM ml).h.get = hpM ml := by
  funext c
  show (Tr.nil.set 0 (clsM ml)).get c = _
  rw [Tr.get_set]
  unfold hpM
  split
  · rfl
  · rw [Tr.get_nil]
theorem stM_fresh (ml : Mbs) : Fresh (stM ml) := fun c hc => by
  rw [stM_get]
  have hc : 1 ≤ c := hc
  unfold hpM
  rw [if_neg (by omega)]
variable {P : Program} {G : Env} {W : World}
/-- A call that the reckoner finds true, its arguments open, returns true and leaves what lay there. -/
theorem open_true (hG0 : ∀ g, G.g g = false) (hE : EnvOk P G) (hm : P.follows .mixedOrders = true) {f : FuncId} {args : List AV} {ml : Mbs} (hM : GoodM W ml) (hw : WFL (hpM ml) args)
    (h : ∃ v st', Ev P G f args (stM ml) v st' ∧ v = .bool true) : Calls P f (concL (plM ml) args).toArray W fun e w' => e = .returned (.bool true) ∧ Below W.heap.size W w' := by
  obtain ⟨v, st', ⟨L, n, h⟩, rfl⟩ := h
  have hc := ((call_ok (draw_ok hm) hE L n f args (stM ml) (.bool true) st' h (stM_fresh ml) (by rw [stM_get]; exact hw)).2 W (plM ml) W (by rw [stM_get]; exact hM.hr) fun g hg => by rw [hG0] at hg; cases hg).2
  refine hc.mono fun e w' => ?_
  rintro ⟨p', rfl, hs, _⟩
  exact ⟨rfl, hs.hr.os, hs.hr.tape, hs.hr.output, hs.hr.size, hs.hr.old⟩
/-- A value, by its cells. -/
theorem conc_of_cells {p : Pls} {as : List AV} {v : Value} (h : as.map (conc p) = v.cells.toList) (hc : ∀ a ∈ as, isCell a = true) : ((∃ cs, v = .agg cs) → conc p (.agg as) = v) ∧ ((∀ cs, v ≠ .agg cs) → ∃ a, as = [a] ∧ conc p a = v) := by
  constructor
  · rintro ⟨cs, rfl⟩
    have h : as.map (conc p) = cs.toList := h
    show Value.agg (concL p as).toArray = _
    rw [concL_eq, h]
  · intro hn
    have hv : v.cells.toList = [v] := by
      cases v <;> first | rfl | exact absurd rfl (hn _)
    rw [hv] at h
    cases as with
    | nil => cases h
    | cons a as => cases as with
      | nil => injection h with h _; exact ⟨a, rfl, h⟩
      | cons b as => simp at h

end Go.Proofs.Ytmjnbdkjekdkgaa
