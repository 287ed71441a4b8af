/-
  'sibyllaw2.same' at two rows of one reading; 'sibyllaw2.known'; 'sibylref2.Words'.
-/
import Derived.BigRegion
import Derived.Test.YtcccnnfmhdogoaaLexT
namespace Go.Proofs.Ytcccnnfmhdogoaa
open Go Go.RowKit
set_option linter.unusedVariables false
attribute [local go_sem] drewN_alloc drewN_setCell

/-- A row of tokens in memory. -/
def TokRow (w : World) (v : Value) (l : List TokR) : Prop :=
  ∃ A cap, v = .slice A l.length cap ∧ l.length ≤ cap ∧ cap ≤ maxLen ∧ (0 < l.length → ∃ g, A = some ⟨g, 0, none⟩ ∧ g < w.heap.size ∧ ∀ j, j < l.length * 4 → w.cell? ⟨g, j, none⟩ = (tokCells l)[j]?)
theorem TokRow.of_own {w : World} {B : Nat} {v : Value} {l : List TokR} (h : w.ownsRow B 35 4 v l.length (tokCells l)) : TokRow w v l := by
  obtain ⟨A, cap, rfl, h1, h2, h3⟩ := own_shape h
  refine ⟨A, cap, rfl, h1, h2, fun h0 => ?_⟩
  obtain ⟨g, rfl, _, hg, hc⟩ := h3 h0
  exact ⟨g, rfl, hg, hc⟩
theorem TokRow.kept {w w' : World} {v : Value} {l : List TokR} (h : TokRow w v l) (hb : Below w.heap.size w w') : TokRow w' v l := by
  obtain ⟨A, cap, rfl, h1, h2, h3⟩ := h
  refine ⟨A, cap, rfl, h1, h2, fun h0 => ?_⟩
  obtain ⟨g, rfl, hg, hc⟩ := h3 h0
  exact ⟨g, rfl, Nat.lt_of_lt_of_le hg hb.size, fun j hj => (hb.cell (p := ⟨g, j, none⟩) hg).trans (hc j hj)⟩
theorem tokCells_len (l : List TokR) : (tokCells l).length = l.length * 4 := by
  induction l with
  | nil => rfl
  | cons t l ih => rw [show tokCells (t :: l) = [.int .i64 t.kind, .string t.text, .int .i64 t.num, .int .i64 t.at'] ++ tokCells l from rfl, List.length_append, ih, List.length_cons, List.length_cons, List.length_cons, List.length_cons, List.length_cons, List.length_nil]; omega
theorem tokCells_at (l : List TokR) : ∀ (k : Nat) (h : k < l.length), (tokCells l)[k * 4]? = some (.int .i64 (l[k]).kind) ∧ (tokCells l)[k * 4 + 1]? = some (.string (l[k]).text) ∧
    (tokCells l)[k * 4 + 2]? = some (.int .i64 (l[k]).num) ∧ (tokCells l)[k * 4 + 3]? = some (.int .i64 (l[k]).at') := by
  induction l with
  | nil => intro k h; simp at h
  | cons t l ih =>
    intro k h
    rw [show tokCells (t :: l) = [.int .i64 t.kind, .string t.text, .int .i64 t.num, .int .i64 t.at'] ++ tokCells l from rfl]
    cases k with
    | zero => exact ⟨rfl, rfl, rfl, rfl⟩
    | succ k =>
      have hk : k < l.length := by simpa using h
      obtain ⟨h0, h1, h2, h3⟩ := ih k hk
      refine ⟨?_, ?_, ?_, ?_⟩
      · rw [show (k + 1) * 4 = k * 4 + 4 by omega]; exact h0
      · rw [show (k + 1) * 4 + 1 = (k * 4 + 1) + 4 by omega]; exact h1
      · rw [show (k + 1) * 4 + 2 = (k * 4 + 2) + 4 by omega]; exact h2
      · rw [show (k + 1) * 4 + 3 = (k * 4 + 3) + 4 by omega]; exact h3

theorem two_row {w : World} {B : Nat} {v : Value} {a b : TokR} (h : w.ownsRow B 35 4 v [a, b].length (tokCells [a, b])) :
    ∃ g cap, v = .slice (some ⟨g, 0, none⟩) 2 cap ∧ 2 ≤ cap ∧ cap ≤ maxLen ∧ g < w.heap.size ∧ w.cell? ⟨g, 0, none⟩ = some (.int .i64 a.kind) ∧ w.cell? ⟨g, 1, none⟩ = some (.string a.text) ∧
      w.cell? ⟨g, 2, none⟩ = some (.int .i64 a.num) ∧ w.cell? ⟨g, 3, none⟩ = some (.int .i64 a.at') := by
  obtain ⟨A, cap, rfl, h1, h2, h3⟩ := own_shape h
  obtain ⟨g, rfl, _, hg, hc⟩ := h3 (by simp)
  have hl : ∀ j, j < 4 → j < [a, b].length * 4 := fun j hj => by simp; omega
  exact ⟨g, cap, rfl, h1, h2, hg, hc 0 (hl 0 (by decide)), hc 1 (hl 1 (by decide)), hc 2 (hl 2 (by decide)), hc 3 (hl 3 (by decide))⟩

theorem same_true (w : World) (v u : Value) (l : List TokR) (hv : TokRow w v l) (hu : TokRow w u l) (hl : l.length ≤ 200000) :
    Calls Try.prog 21 #[v, u] w (Quiet (.bool true) w) := by
  obtain ⟨A, c, rfl, hc1, hc2, hA⟩ := hv
  obtain ⟨B, d, rfl, hd1, hd2, hB⟩ := hu
  by_cases h0 : 0 < l.length
  · obtain ⟨a, rfl, ha, hA⟩ := hA h0
    obtain ⟨b, rfl, hb, hB⟩ := hB h0
    have hat := tokCells_at l
    have HAT := Lib.hid hat
    have HA := Lib.hid hA
    have HB := Lib.hid hB
    clear hat hA hB
    have hlen : ((l.length : Int) == l.length) = true := by simp
    go_enter Try.func21, Try.ntmps21
    go_wp2
    go_loopg [5] l.length (fun q iv wr => ∃ k m : Nat, q = l.length - k ∧ k ≤ l.length ∧ iv = .int .i64 k ∧ wr = w.drewN m)
    case atStart => exact ⟨0, 0, rfl, Nat.zero_le _, rfl, rfl⟩
    case round =>
      obtain ⟨k, m, rfl, hk, rfl, rfl⟩ := hrel
      by_cases hn : k < l.length
      · obtain ⟨e0, e1, e2, e3⟩ := HAT.out k hn
        have a0 := (HA.out _ (by omega)).trans e0
        have a1 := (HA.out _ (by omega)).trans e1
        have a2 := (HA.out _ (by omega)).trans e2
        have a3 := (HA.out _ (by omega)).trans e3
        have b0 := (HB.out _ (by omega)).trans e0
        have b1 := (HB.out _ (by omega)).trans e1
        have b2 := (HB.out _ (by omega)).trans e2
        have b3 := (HB.out _ (by omega)).trans e3
        generalize l[k] = t at *
        clear e0 e1 e2 e3
        go_wp2_with fail
        go_region
        go_wp2
        go_roundg (l.length - (k + 1))
        case measure => omega
        case rel => exact ⟨k + 1, m + 1, rfl, hn, by go_num, rfl⟩
      · go_wp2
        go_ret
        exact ⟨rfl, _, rfl⟩
  · have hz : l.length = 0 := by omega
    rw [hz]
    clear hA hB hc1 hd1 hl h0
    go_enter Try.func21, Try.ntmps21
    go_wp2
    go_loopg [5] 0 (fun q iv wr => iv = .int .i64 0 ∧ wr = w ∧ q = 0)
    case atStart => exact ⟨rfl, rfl, rfl⟩
    case round =>
      obtain ⟨rfl, rfl, rfl⟩ := hrel
      go_wp2
      go_ret
      exact ⟨rfl, 0, rfl⟩

def xT : ByteArray := ⟨#[120, 60, 61, 51]⟩
def knownL : List TokR := [⟨1, ⟨#[120]⟩, 0, 0, true, 1⟩, ⟨3, ⟨#[60, 61]⟩, 0, 1, true, 2⟩, ⟨2, ⟨#[]⟩, 3, 3, true, 1⟩, ⟨4, ⟨#[]⟩, 0, 4, true, 0⟩]
theorem tokens_x : tokens ⟨#[120, 60, 61, 51]⟩ = (knownL, 4, 0) := by kernel_rfl

theorem refWords_any (w : World) : Calls Try.prog 12 #[] w (StrsPost wordsL w) := by
  go_enter Try.func12, Try.ntmps12
  go_wp2
  go_ret
  exact ⟨rfl, strsAt_new _ _ _ _ rfl, (Below.refl _ _).alloc (Nat.le_refl _) _, by simp⟩

theorem known2 (w : World) : Calls Try.prog 15 #[] w fun e w' => e = .returned (.bool true) ∧ Below w.heap.size w w' := by
  go_enter Try.func15, Try.ntmps15
  go_wp2_with fail
  refine (tokens_any _ _ (by decide)).mono ?_
  rintro e w1 ⟨v, rfl, hown, hb⟩
  rw [tokens_x] at hown ⊢
  have hrow := TokRow.of_own hown
  have HR := Lib.hid hrow
  clear hown hrow
  go_wp2_with fail
  refine (same_true _ _ _ knownL (HR.out.kept ((Below.refl _ _).alloc (Nat.le_refl _) _)) ?_ (by decide)).mono ?_
  · refine ⟨_, _, rfl, by decide, by decide, fun _ => ⟨_, rfl, by simp, fun j hj => ?_⟩⟩
    rw [cell_of_row _ w1.heap.size j _ _ _ (heap_alloc_new w1 _), ← Array.getElem?_toList]
    rfl
  rintro e w2 ⟨rfl, m, rfl⟩
  go_wp2
  go_ret
  exact ⟨rfl, bel_drewN (below_join hb ((Below.refl w1.heap.size w1).alloc (Nat.le_refl _) _) hb.size) _⟩

end Go.Proofs.Ytcccnnfmhdogoaa
