/-
  The walk of 'RunesEach': it returns true.
-/
import Derived.Test.YtcccnnfmhdogoaaDoorRefEach
import Derived.Test.YtcccnnfmhdogoaaDoorRunesK
import Derived.Deep.QuietTactic
import Derived.BigQuiet
namespace Go.Proofs.YtcccnnfmhdogoaaDoor
open Go Go.RowKit
set_option linter.unusedVariables false

theorem each_len (s : ByteArray) : ∀ (f p : Nat), (eachGo s f p).1.length ≤ f := by
  intro f
  induction f with
  | zero => intro p; simp [eachGo]
  | succ f ih =>
    intro p
    rw [eachGo]
    split
    · split
      · simp
      · simp only [List.length_cons]; have := ih (p + (Utf8.decode s p).2); omega
    · simp

theorem runeCells_at (l : List (Nat × Nat)) (k : Nat) (h : k < l.length) :
    (runeCells l)[k * 2]? = some (.int .i32 (l[k]).1) ∧ (runeCells l)[k * 2 + 1]? = some (.int .i64 (l[k]).2) := by
  induction l generalizing k with
  | nil => simp at h
  | cons x l ih =>
    cases k with
    | zero => simp [runeCells]
    | succ k =>
      have := ih k (by simpa using h)
      simp only [runeCells, List.flatMap_cons, List.getElem_cons_succ] at this ⊢
      rw [List.getElem?_append_right (by simp; omega), List.getElem?_append_right (by simp; omega)]
      simp only [List.length_cons, List.length_nil]
      have e1 : (k + 1) * 2 - (0 + 1 + 1) = k * 2 := by omega
      have e2 : (k + 1) * 2 + 1 - (0 + 1 + 1) = k * 2 + 1 := by omega
      rw [e1, e2]
      exact this

theorem walk_runesEach (s : ByteArray) (w : World) (hz : s.size ≤ 140737488351232) (hT : Tabs w) :
    Calls Tryd.prog 3 #[.string s] w fun e w' => e = .returned (.bool true) ∧ Below w.heap.size w w' := by
  by_cases h : s.size ≤ 500
  · go_enter Tryd.func3, Tryd.ntmps3
    go_wp2_with fail
    refine (each_any _ _ (by omega)).mono ?_
    rintro e w1 ⟨v1, rfl, hown1, hb1⟩
    go_wp2_with fail
    refine (refEach_any _ _ (by omega) (hT.below hb1)).mono ?_
    rintro e w2 ⟨v2, rfl, hown2, hb2⟩
    have hl := each_len s s.size 0
    have hown1 := own_below_size hown1 hb2
    have hb := hb1.trans (hb2.mono hb1.size)
    clear hb1 hb2
    change (each s).1.length ≤ s.size at hl
    generalize (each s).1 = l at *
    generalize badInt (each s).2 = bad at *
    obtain ⟨A1, c1, rfl, hc1, hm1, hr1⟩ := own_shape hown1
    obtain ⟨A2, c2, rfl, hc2, hm2, hr2⟩ := own_shape hown2
    clear hown1 hown2
    have q1 : ((l.length : Int) != l.length) = false := by simp
    have q2 : ((bad : Int) != bad) = false := by simp
    go_wp2
    go_loopw [7] (fun i wr => ∃ (k nq : Nat), k ≤ l.length ∧ i = .int .i64 k ∧ wr = w2.drewN nq) (fun i _ => l.length - (intOf i).toNat)
    case atStart => exact ⟨0, 0, by omega, rfl, rfl⟩
    case round =>
      obtain ⟨k, nq, hk, rfl, rfl⟩ := hrel
      by_cases hlt : k < l.length
      · obtain ⟨g1, rfl, _, hg1, hx1⟩ := hr1 (by omega)
        obtain ⟨g2, rfl, _, hg2, hx2⟩ := hr2 (by omega)
        have ha := hx1 (k * 2) (by omega)
        have hb' := hx1 (k * 2 + 1) (by omega)
        have hc := hx2 (k * 2) (by omega)
        have hd := hx2 (k * 2 + 1) (by omega)
        obtain ⟨e1, e2⟩ := runeCells_at l k hlt
        rw [e1] at ha hc
        rw [e2] at hb' hd
        clear e1 e2 hx1 hx2 hr1 hr2
        go_wp2
        go_quiet (fail)
        go_wp2
        go_roundw
        case rel => exact ⟨k + 1, _, by omega, by go_num, rfl⟩
        case measure => simp [intOf]; omega
      · go_wp2_with fail
        refine (known1 _).mono ?_
        rintro e w3 ⟨rfl, hb3⟩
        go_wp2
        go_ret
        exact ⟨rfl, (bel_drewN hb nq).trans (hb3.mono hb.size)⟩
  · go_enter Tryd.func3, Tryd.ntmps3
    go_wp2
    go_ret
    exact ⟨rfl, Below.refl _ _⟩

end Go.Proofs.YtcccnnfmhdogoaaDoor
