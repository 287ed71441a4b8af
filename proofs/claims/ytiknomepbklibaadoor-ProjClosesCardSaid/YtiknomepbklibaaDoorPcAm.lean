/-
  Automata, plainly; the least one of a language is one.
-/
import Derived.Test.YtiknomepbklibaaDoorPcKit
namespace Go.Proofs.YtiknomepbklibaaDoor
set_option linter.unusedVariables false

structure Au where
 tr : Nat
 acc : List Bool
 nx : List (List Int)
abbrev Au.n (a : Au) : Nat := a.acc.length
abbrev Au.K (a : Au) : Nat := 2 ^ a.tr
/-- A state's next one; does it accept? -/
def Au.go (a : Au) (s c : Nat) : Nat := (((a.nx[s]?).getD [])[c]?.getD 0).toNat
def Au.ok (a : Au) (s : Nat) : Bool := (a.acc[s]?).getD false
def Au.run (a : Au) (s : Nat) (w : List Nat) : Nat := w.foldl a.go s
structure WFA (a : Au) : Prop where
 tr : a.tr ≤ 6
 pos : 1 ≤ a.n
 most : a.n ≤ 400
 len : a.nx.length = a.n
 row : ∀ r ∈ a.nx, r.length = a.K ∧ ∀ z ∈ r, 0 ≤ z ∧ z < a.n
theorem WFA.at_ {a : Au} (W : WFA a) {s c : Nat} (hs : s < a.n) (hc : c < a.K) : ∃ r z, a.nx[s]? = some r ∧ r[c]? = some z ∧ z = ((a.go s c : Nat) : Int) ∧ a.go s c < a.n ∧ r.length = a.K := by
 obtain ⟨r, hr⟩ : ∃ r, a.nx[s]? = some r := ⟨_, List.getElem?_eq_getElem (by rw [W.len]; exact hs)⟩
 obtain ⟨h1, h2⟩ := W.row r (List.mem_of_getElem? hr)
 obtain ⟨z, hz⟩ : ∃ z, r[c]? = some z := ⟨_, List.getElem?_eq_getElem (by rw [h1]; exact hc)⟩
 have h3 := h2 z (List.mem_of_getElem? hz)
 have e : a.go s c = z.toNat := by unfold Au.go; rw [hr, Option.getD_some, hz, Option.getD_some]
 exact ⟨r, z, hr, hz, by omega, by omega, h1⟩
theorem WFA.go_lt {a : Au} (W : WFA a) {s c : Nat} (hs : s < a.n) (hc : c < a.K) : a.go s c < a.n := by
 obtain ⟨_, _, _, _, _, h, _⟩ := W.at_ hs hc
 exact h
end Go.Proofs.YtiknomepbklibaaDoor
