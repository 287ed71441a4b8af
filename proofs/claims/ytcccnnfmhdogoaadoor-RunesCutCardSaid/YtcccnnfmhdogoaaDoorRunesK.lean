/-
  'known' of the laws of chapter 1: two runes. It returns true.
-/
import Derived.Test.YtcccnnfmhdogoaaDoorRunesB
namespace Go.Proofs.YtcccnnfmhdogoaaDoor
open Go Go.RowKit
set_option linter.unusedVariables false

theorem each_known : each ⟨#[97, 206, 178]⟩ = ([(97, 0), (946, 1)], none) := by decide +kernel
theorem own_form {w : World} {base : Nat} {e : TypeId} {size n : Nat} {v : Value} {xs : List Value} (h : w.ownsRow base e size v (n + 1) xs) :
    ∃ g cap, v = .slice (some ⟨g, 0, none⟩) (n + 1) cap ∧ base ≤ g ∧ g < w.heap.size ∧ n + 1 ≤ cap ∧ (∀ j, j < (n + 1) * size → w.cell? ⟨g, j, none⟩ = xs[j]?) := by
  have h' := h
  rcases h.2 with ⟨_, h0⟩ | ⟨g, cap, cur, rfl, hb, hh, hn, _⟩
  · omega
  · exact ⟨g, cap, rfl, hb, (Array.getElem?_eq_some_iff.1 hh).1, hn, fun j hj => h'.cellAt j hj⟩

theorem known1 (w : World) : Calls Tryd.prog 10 #[] w fun e w' => e = .returned (.bool true) ∧ Below w.heap.size w w' := by
  go_enter Tryd.func10, Tryd.ntmps10
  go_wp2_with fail
  refine (each_any _ _ (by decide)).mono ?_
  rintro e w1 ⟨v, rfl, hown, hb⟩
  rw [each_known] at hown ⊢
  obtain ⟨g, cap, rfl, hg, hg2, hc, hcell⟩ := own_form hown
  have h2 := hcell 2 (by decide)
  have h3 := hcell 3 (by decide)
  simp [runeCells] at h2 h3
  clear hcell hown
  go_wp2_with (go_at_call 17; refine (class_any _ _).mono ?_; rintro e w' ⟨rfl, rfl⟩)
  go_ret
  exact ⟨ret_bool (by decide), hb⟩

end Go.Proofs.YtcccnnfmhdogoaaDoor
