/-
  The walk of 'RunesLines': it returns true.
-/
import Derived.Test.YtcccnnfmhdogoaaPlace
import Derived.Test.YtcccnnfmhdogoaaRunesK
namespace Go.Proofs.Ytcccnnfmhdogoaa
open Go Go.RowKit
set_option linter.unusedVariables false

theorem feed_size : (ByteArray.mk #[10]).size = 1 := rfl

theorem walk_runesLines (s t : ByteArray) (w : World) (hs : s.size ≤ 140737488351232) (ht : t.size ≤ 140737488351232) :
    Calls Try.prog 4 #[.string s, .string t] w fun e w' => e = .returned (.bool true) ∧ Below w.heap.size w w' := by
  by_cases h : s.size + t.size ≤ 300
  · obtain ⟨l, c, h0⟩ : ∃ l c, place s s.size = (l, c) := ⟨_, _, rfl⟩
    have hl : l ≤ s.size + 1 := by have := place_le s s.size; rw [h0] at this; exact this
    have h1 : place (s ++ ⟨#[10]⟩ ++ t) s.size = (l, c) := by rw [ByteArray.append_assoc, place_left s _ (by rw [get_left _ _ _ (by decide)]; rfl) (by simp [feed_size]; omega)]; exact h0
    have h2 : place (s ++ ⟨#[10]⟩ ++ t) (s.size + 1) = (l + 1, 1) := by rw [ByteArray.append_assoc, place_next s _ (by rw [get_left _ _ _ (by decide)]; rfl) (by simp [feed_size]; omega), h0]
    have hz : (s ++ ⟨#[10]⟩ ++ t).size ≤ 100000 := by simp [feed_size]; omega
    have H0 := Lib.hid h0
    have H1 := Lib.hid h1
    have H2 := Lib.hid h2
    have HZ := Lib.hid hz
    clear h0 h1 h2 hz
    go_enter Try.func4, Try.ntmps4
    go_wp2_with fail
    refine (place_at _ _ _ _ _ (by omega) H0.out).mono ?_
    rintro e w1 ⟨rfl, hb1⟩
    go_wp2_with fail
    refine (place_at _ _ _ _ _ HZ.out H2.out).mono ?_
    rintro e w2 ⟨rfl, hb2⟩
    go_wp2_with fail
    refine (place_at _ _ _ _ _ HZ.out H1.out).mono ?_
    rintro e w3 ⟨rfl, hb3⟩
    go_wp2_with fail
    refine (place_at _ _ _ _ _ (by omega) H0.out).mono ?_
    rintro e w4 ⟨rfl, hb4⟩
    have hq1 : ((c : Int) == c) = true := by simp
    have hq2 : ((l : Int) == l) = true := by simp
    have hq3 : ((l : Int) + 1 == l + 1) = true := by simp
    go_wp2_with fail
    refine (known1 _).mono ?_
    rintro e w5 ⟨rfl, hb5⟩
    go_wp2
    go_ret
    exact ⟨rfl, (((hb1.trans (hb2.mono hb1.size)).trans (hb3.mono (Nat.le_trans hb1.size hb2.size))).trans (hb4.mono (by have := hb1.size; have := hb2.size; have := hb3.size; omega))).trans (hb5.mono (by have := hb1.size; have := hb2.size; have := hb3.size; have := hb4.size; omega))⟩
  · go_enter Try.func4, Try.ntmps4
    go_wp2
    go_ret
    exact ⟨rfl, Below.refl _ _⟩

end Go.Proofs.Ytcccnnfmhdogoaa
