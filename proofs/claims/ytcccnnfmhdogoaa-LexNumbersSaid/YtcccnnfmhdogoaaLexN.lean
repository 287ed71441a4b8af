/-
  The plain law behind 'LexNumbers': the tokens of each numeral.
-/
import Derived.Test.YtcccnnfmhdogoaaLexS
namespace Go.Proofs.Ytcccnnfmhdogoaa
open Go Go.RowKit
set_option linter.unusedVariables false

/-- The digits of a number ahead of what stands there. -/
def digs : Nat → Nat → List UInt8 → List UInt8
  | 0, _, s => s
  | f + 1, k, s => if 0 < k ∨ s = [] then digs f (k / 10) (UInt8.ofNat (48 + k % 10) :: s) else s
def zers : Nat → List UInt8 → List UInt8
  | 0, s => s
  | z + 1, s => zers z (48 :: s)
def numS (n z : Nat) : List UInt8 := zers z (digs 5 n [])
def numT (n z : Nat) : ByteArray := ⟨#[32]⟩ ++ ⟨⟨numS n z⟩⟩
def numOkB (n z : Nat) (r : List TokR × Nat × Int) : Bool := match r with
  | (l, at', e) => if z = 0 ∧ n ≤ 99 then e == 0 && (match l with | [a, _] => a.num == n | _ => false) else e == 2 && at' == 1
set_option maxRecDepth 100000 in
theorem nums_ok0 : (List.range 1001).all (fun n => numOkB n 0 (tokens (numT n 0))) = true := by decide +kernel
set_option maxRecDepth 100000 in
theorem nums_ok1 : (List.range 1001).all (fun n => numOkB n 1 (tokens (numT n 1))) = true := by decide +kernel
set_option maxRecDepth 100000 in
theorem nums_ok2 : (List.range 1001).all (fun n => numOkB n 2 (tokens (numT n 2))) = true := by decide +kernel
set_option maxRecDepth 100000 in
theorem nums_ok3 : (List.range 1001).all (fun n => numOkB n 3 (tokens (numT n 3))) = true := by decide +kernel
theorem nums_all (n z : Nat) (hn : n ≤ 1000) (hz : z ≤ 3) : numOkB n z (tokens (numT n z)) = true := by
  have hm : n ∈ List.range 1001 := List.mem_range.2 (by omega)
  match z, hz with
  | 0, _ => exact List.all_eq_true.1 nums_ok0 n hm
  | 1, _ => exact List.all_eq_true.1 nums_ok1 n hm
  | 2, _ => exact List.all_eq_true.1 nums_ok2 n hm
  | 3, _ => exact List.all_eq_true.1 nums_ok3 n hm
theorem num_good {n : Nat} {r : List TokR × Nat × Int} (h : numOkB n 0 r = true) (hn : n ≤ 99) : ∃ a b p, r = ([a, b], p, 0) ∧ a.num = n := by
  obtain ⟨l, at', e⟩ := r
  unfold numOkB at h
  simp only [hn, and_self, if_true, Bool.and_eq_true, beq_iff_eq] at h
  obtain ⟨rfl, h2⟩ := h
  split at h2
  · exact ⟨_, _, _, rfl, by simpa using h2⟩
  · exact absurd h2 (by decide)
theorem num_bad {n z : Nat} {r : List TokR × Nat × Int} (h : numOkB n z r = true) (hn : ¬ (z = 0 ∧ n ≤ 99)) : ∃ l, r = (l, 1, 2) := by
  obtain ⟨l, at', e⟩ := r
  unfold numOkB at h
  change (if z = 0 ∧ n ≤ 99 then _ else _) = true at h
  rw [if_neg hn] at h
  simp only [Bool.and_eq_true, beq_iff_eq] at h
  obtain ⟨rfl, rfl⟩ := h
  exact ⟨_, rfl⟩
theorem digs_len (f : Nat) : ∀ k s, (digs f k s).length ≤ f + s.length := by
  induction f with
  | zero => intro k s; simp [digs]
  | succ f ih =>
    intro k s
    rw [digs]
    split
    · have := ih (k / 10) (UInt8.ofNat (48 + k % 10) :: s)
      simp only [List.length_cons] at this
      omega
    · omega
theorem digs_end (f k : Nat) (s : List UInt8) (h : ¬ (0 < k ∨ s = [])) : digs f k s = s := by
  cases f with
  | zero => rfl
  | succ f => rw [digs, if_neg h]
end Go.Proofs.Ytcccnnfmhdogoaa
