/-
  The plain law behind 'LexLong': the tokens of a long name, of a row of spaces.
-/
import Derived.Test.YtcccnnfmhdogoaaLexS
namespace Go.Proofs.Ytcccnnfmhdogoaa
open Go Go.RowKit
set_option linter.unusedVariables false

def alphas : Nat → List UInt8
  | 0 => []
  | n + 1 => alphas n ++ [206, 177]
def alphaOkB (n : Nat) (r : List TokR × Nat × Int) : Bool := match r with
  | (l, at', e) => if n ≤ 12 then e == 0 && (match l with | [a, _] => sameStr a.text ⟨⟨alphas n⟩⟩ | _ => false) else e == 2 && at' == 0
set_option maxRecDepth 100000 in
theorem alphas_ok : (List.range 21).all (fun n => n == 0 || alphaOkB n (tokens ⟨⟨alphas n⟩⟩)) = true := by decide +kernel
theorem alphas_len (n : Nat) : (alphas n).length = 2 * n := by
  induction n with
  | zero => rfl
  | succ n ih => rw [alphas, List.length_append, ih]; simp; omega
theorem alpha_good {n : Nat} {r : List TokR × Nat × Int} (h : alphaOkB n r = true) (hn : n ≤ 12) : ∃ a b p, r = ([a, b], p, 0) ∧ a.text = ⟨⟨alphas n⟩⟩ := by
  obtain ⟨l, at', e⟩ := r
  change (if n ≤ 12 then _ else _) = true at h
  rw [if_pos hn] at h
  simp only [Bool.and_eq_true, beq_iff_eq] at h
  obtain ⟨rfl, h2⟩ := h
  split at h2
  · exact ⟨_, _, _, rfl, (sameStr_iff _ _).1 h2⟩
  · exact absurd h2 (by decide)
theorem alpha_bad {n : Nat} {r : List TokR × Nat × Int} (h : alphaOkB n r = true) (hn : ¬ n ≤ 12) : ∃ l, r = (l, 0, 2) := by
  obtain ⟨l, at', e⟩ := r
  change (if n ≤ 12 then _ else _) = true at h
  rw [if_neg hn] at h
  simp only [Bool.and_eq_true, beq_iff_eq] at h
  obtain ⟨rfl, rfl⟩ := h
  exact ⟨_, rfl⟩
theorem alpha_all (n : Nat) (h1 : 1 ≤ n) (h2 : n ≤ 20) : alphaOkB n (tokens ⟨⟨alphas n⟩⟩) = true := by
  have := List.all_eq_true.1 alphas_ok n (List.mem_range.2 (by omega))
  rw [Bool.or_eq_true] at this
  rcases this with h | h
  · simp at h; omega
  · exact h

theorem each_sp (s : ByteArray) (h : ∀ i, i < s.size → (s.get! i).toNat = 32) : ∀ f p, (eachGo s f p).2 = none ∧ ∀ x ∈ (eachGo s f p).1, x.1 = 32 := by
  intro f
  induction f with
  | zero => intro p; exact ⟨rfl, fun x hx => by simp [eachGo] at hx⟩
  | succ f ih =>
    intro p
    by_cases hp : p < s.size
    · have hd := decode_byte s p hp (by rw [h p hp]; decide)
      rw [h p hp] at hd
      rw [eachGo_step s f p hp (by rw [hd]; decide), hd]
      obtain ⟨i1, i2⟩ := ih (p + 1)
      refine ⟨i1, fun x hx => ?_⟩
      rcases List.mem_cons.1 hx with rfl | hx
      · rfl
      · exact i2 x hx
    · rw [eachGo_end s _ p hp]
      exact ⟨rfl, fun x hx => by simp at hx⟩
theorem blank_sp : ∀ L : List (Nat × Nat), (∀ x ∈ L, x.1 = 32) → blankGo false L = L.length := by
  intro L
  induction L with
  | nil => intro _; rfl
  | cons x L ih =>
    intro h
    obtain ⟨c, a⟩ := x
    have hc : c = 32 := h (c, a) (List.mem_cons_self ..)
    subst hc
    rw [blankGo, if_pos (by decide), ih (fun x hx => h x (List.mem_cons_of_mem _ hx)), List.length_cons]
theorem tokens_sp (s : ByteArray) (h : ∀ i, i < s.size → (s.get! i).toNat = 32) (hs : s.size ≤ 2000) : tokens s = ([endTok s], s.size, 0) := by
  obtain ⟨h1, h2⟩ := each_sp s h s.size 0
  have hb := blank_sp (each s).1 h2
  have h1' : (each s).2 = none := h1
  unfold tokens
  rw [if_neg (by omega), hb, List.drop_length, h1']
  rfl
theorem tokens_long (s : ByteArray) (hs : 2000 < s.size) : tokens s = ([], 0, 3) := by rw [tokens, if_pos hs]
def spaces (m : Nat) : ByteArray := ⟨⟨List.replicate m 32⟩⟩
theorem spaces_size (m : Nat) : (spaces m).size = m := by
  show (List.replicate m (32 : UInt8)).length = m
  simp
theorem spaces_tok (m : Nat) : (m ≤ 2000 → ∃ l, tokens (spaces m) = (l, m, 0)) ∧ (2000 < m → tokens (spaces m) = ([], 0, 3)) := by
  constructor
  · intro h
    refine ⟨_, (tokens_sp (spaces m) (fun i hi => ?_) (by rw [spaces_size]; exact h)).trans (by rw [spaces_size])⟩
    rw [get_eq _ _ hi]
    simp [spaces]
  · intro h
    exact tokens_long _ (by rw [spaces_size]; exact h)

end Go.Proofs.Ytcccnnfmhdogoaa
