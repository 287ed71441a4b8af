/-
  Plain laws: the runes of a text that is cut. No program here.
-/
import Derived.Test.YtcccnnfmhdogoaaDoorRunesP
namespace Go.Proofs.YtcccnnfmhdogoaaDoor
open Go

theorem decodeN_cut (n m b0 b1 b2 b3 c1 c2 c3 : Nat) (hm : 1 ≤ m) (hmn : m ≤ n) (h1 : 1 < m → c1 = b1) (h2 : 2 < m → c2 = b2) (h3 : 3 < m → c3 = b3) :
    ((Lib.decodeN n b0 b1 b2 b3).2 ≤ m → ¬ ((Lib.decodeN n b0 b1 b2 b3).1 = 65533 ∧ (Lib.decodeN n b0 b1 b2 b3).2 = 1) → Lib.decodeN m b0 c1 c2 c3 = Lib.decodeN n b0 b1 b2 b3) ∧
    (m < (Lib.decodeN n b0 b1 b2 b3).2 → Lib.decodeN m b0 c1 c2 c3 = (65533, 1)) := by
  by_cases a0 : b0 < 128
  · simp only [Lib.decodeN, if_pos a0]
    exact ⟨fun _ _ => trivial, fun h => absurd h (by omega)⟩
  by_cases x1 : 1 < m
  · obtain rfl := h1 x1
    by_cases x2 : 2 < m
    · obtain rfl := h2 x2
      by_cases x3 : 3 < m
      · obtain rfl := h3 x3
        have e : Lib.decodeN m b0 c1 c2 c3 = Lib.decodeN n b0 c1 c2 c3 := by
          have y1 : 1 < n := by omega
          have y2 : 2 < n := by omega
          have y3 : 3 < n := by omega
          simp only [Lib.decodeN, x1, x2, x3, y1, y2, y3]
        rw [e]
        refine ⟨fun _ _ => rfl, fun h => absurd h ?_⟩
        simp only [Lib.decodeN]
        repeat' split
        all_goals simp only
        all_goals omega
      · have y1 : 1 < n := by omega
        have y2 : 2 < n := by omega
        obtain rfl : m = 3 := by omega
        simp only [Lib.decodeN, a0, y1, y2, if_false]
        by_cases p1 : b0 / 32 = 6 ∧ True ∧ c1 / 64 = 2
        · simp [p1]; split <;> simp
        · by_cases p2 : b0 / 16 = 14 ∧ (True ∧ c1 / 64 = 2) ∧ (True ∧ c2 / 64 = 2)
          · simp at p2
            have q1 : ¬ b0 / 32 = 6 := by omega
            simp [p2, q1]
            split <;> simp
          · simp at p1 p2
            by_cases p3 : b0 / 8 = 30 ∧ (1 < n ∧ c1 / 64 = 2) ∧ (2 < n ∧ c2 / 64 = 2) ∧ (3 < n ∧ b3 / 64 = 2)
            · obtain ⟨r0, r1, r2, r3⟩ := p3
              have q1 : ¬ b0 / 32 = 6 := by omega
              have q2 : ¬ b0 / 16 = 14 := by omega
              simp [r0, r1.2, r2.2, r3, q1, q2]
              split <;> simp
            · have q3 : ¬ (b0 / 8 = 30 ∧ (c1 / 64 = 2) ∧ (c2 / 64 = 2) ∧ (3 < n ∧ b3 / 64 = 2)) := fun h => p3 ⟨h.1, ⟨y1, h.2.1⟩, ⟨y2, h.2.2.1⟩, h.2.2.2⟩
              have q1 : ¬ (b0 / 32 = 6 ∧ c1 / 64 = 2) := fun h => p1 h.1 h.2
              have q2 : ¬ (b0 / 16 = 14 ∧ c1 / 64 = 2 ∧ c2 / 64 = 2) := fun h => p2 h.1 h.2.1 h.2.2
              simp [q1, q2, q3]
    · have y1 : 1 < n := by omega
      obtain rfl : m = 2 := by omega
      simp only [Lib.decodeN, a0, y1, if_false]
      by_cases p1 : b0 / 32 = 6 ∧ True ∧ c1 / 64 = 2
      · simp [p1]; split <;> simp
      · simp at p1
        have q1 : ¬ (b0 / 32 = 6 ∧ c1 / 64 = 2) := fun h => p1 h.1 h.2
        simp [q1]
        repeat' split
        all_goals simp
  · obtain rfl : m = 1 := by omega
    simp only [Lib.decodeN, a0, if_false]
    simp
    repeat' split
    all_goals simp

theorem get_cut (s : ByteArray) (k j : Nat) (hk : k ≤ s.size) (hj : j < k) : (s.extract 0 k).get! j = s.get! j := by
  have hz : (s.extract 0 k).size = k := by simp; omega
  rw [get_eq _ _ (by omega), get_eq _ _ (by omega)]
  simp [ByteArray.data_extract]

theorem decode_take (s : ByteArray) (k i : Nat) (hk : k ≤ s.size) (hi : i < k) :
    (i + (Utf8.decode s i).2 ≤ k → ¬ ((Utf8.decode s i).1 = 65533 ∧ (Utf8.decode s i).2 = 1) → Utf8.decode (s.extract 0 k) i = Utf8.decode s i) ∧
    (k < i + (Utf8.decode s i).2 → Utf8.decode (s.extract 0 k) i = (65533, 1)) := by
  have hz : (s.extract 0 k).size = k := by simp; omega
  rw [Lib.decode_at (s.extract 0 k), Lib.decode_at s, hz, get_cut s k i hk hi]
  have := decodeN_cut (s.size - i) (k - i) (s.get! i).toNat (s.get! (i + 1)).toNat (s.get! (i + 2)).toNat (s.get! (i + 3)).toNat ((s.extract 0 k).get! (i + 1)).toNat ((s.extract 0 k).get! (i + 2)).toNat ((s.extract 0 k).get! (i + 3)).toNat (by omega) (by omega)
    (fun h => by rw [get_cut s k _ hk (by omega)]) (fun h => by rw [get_cut s k _ hk (by omega)]) (fun h => by rw [get_cut s k _ hk (by omega)])
  exact ⟨fun h => this.1 (by omega), fun h => this.2 (by omega)⟩

theorem encode_size (s : ByteArray) (i : Nat) (ho : ¬ ((Utf8.decode s i).1 = 65533 ∧ (Utf8.decode s i).2 = 1)) : (Utf8.encode (Utf8.decode s i).1).size = (Utf8.decode s i).2 := by
  have h0 := get_lt s i
  have h1 := get_lt s (i + 1)
  have h2 := get_lt s (i + 2)
  have h3 := get_lt s (i + 3)
  rw [Lib.decode_at] at ho ⊢
  generalize (s.get! i).toNat = b0 at *
  generalize (s.get! (i + 1)).toNat = b1 at *
  generalize (s.get! (i + 2)).toNat = b2 at *
  generalize (s.get! (i + 3)).toNat = b3 at *
  have key : ∀ c k : Nat, (k = 1 ∧ c < 128 ∨ k = 2 ∧ 128 ≤ c ∧ c < 2048 ∨ k = 3 ∧ 2048 ≤ c ∧ c < 65536 ∧ (c < 55296 ∨ 57344 ≤ c) ∨ k = 4 ∧ 65536 ≤ c ∧ c ≤ 1114111) → (Utf8.encode (c : Int)).size = k := by
    intro c k h
    have hv : Utf8.valid (c : Int) = true := by
      simp only [Utf8.valid, Bool.or_eq_true, Bool.and_eq_true, decide_eq_true_eq]
      omega
    unfold Utf8.encode
    rw [if_pos hv, Int.toNat_natCast]
    rcases h with ⟨rfl, h⟩ | ⟨rfl, h, h'⟩ | ⟨rfl, h, h', h''⟩ | ⟨rfl, h, h'⟩
    · simp only [h, if_true]; rfl
    · simp only [show ¬ c < 128 by omega, h', if_true, if_false]; rfl
    · simp only [show ¬ c < 128 by omega, show ¬ c < 2048 by omega, h', if_true, if_false]; rfl
    · simp only [show ¬ c < 128 by omega, show ¬ c < 2048 by omega, show ¬ c < 65536 by omega, if_false]; rfl
  apply key
  unfold Lib.decodeN at ho ⊢
  split
  · left; exact ⟨rfl, by assumption⟩
  · rename_i a0
    rw [if_neg a0] at ho
    split
    · rename_i a1
      rw [if_pos a1] at ho
      split
      · right; left; exact ⟨rfl, by assumption, by simp only; omega⟩
      · rename_i a2
        rw [if_neg a2] at ho
        simp at ho
    · rename_i a1
      rw [if_neg a1] at ho
      split
      · rename_i a2
        rw [if_pos a2] at ho
        split
        · rename_i a3
          right; right; left; refine ⟨rfl, ?_, ?_, ?_⟩ <;> simp only <;> omega
        · rename_i a3
          rw [if_neg a3] at ho
          simp at ho
      · rename_i a2
        rw [if_neg a2] at ho
        split
        · rename_i a3
          rw [if_pos a3] at ho
          split
          · rename_i a4
            right; right; right; refine ⟨rfl, ?_, ?_⟩ <;> simp only <;> omega
          · rename_i a4
            rw [if_neg a4] at ho
            simp at ho
        · rename_i a3
          rw [if_neg a3] at ho
          simp at ho

/-- Where the runes of a row end. -/
def endOf (sz : Nat → Nat) : List (Nat × Nat) → Nat → Nat
  | [], p => p
  | (c, a) :: l, _ => endOf sz l (a + sz c)

theorem endOf_last (sz : Nat → Nat) : ∀ (l : List (Nat × Nat)) (p m : Nat) (h : l.length = m + 1), endOf sz l p = (l[m]'(by omega)).2 + sz (l[m]'(by omega)).1 := by
  intro l
  induction l with
  | nil => intro p m h; simp at h
  | cons x l ih =>
    intro p m h
    obtain ⟨c, a⟩ := x
    cases m with
    | zero =>
      have : l = [] := List.eq_nil_of_length_eq_zero (by simpa using h)
      subst this
      rfl
    | succ m =>
      rw [endOf, ih _ m (by simpa using h)]
      rfl

theorem odd_of (x : Nat × Nat) (e : x = (65533, 1)) : x.1 = 65533 ∧ x.2 = 1 := by subst e; exact ⟨rfl, rfl⟩
theorem no_odd_of (x y : Nat × Nat) (e : x = y) (h : ¬ (y.1 = 65533 ∧ y.2 = 1)) : ¬ (x.1 = 65533 ∧ x.2 = 1) := by subst e; exact h

theorem cut_cons (sz : Nat → Nat) (r : List (Nat × Nat) × Option Nat) (c a k p w : Nat) (he : sz c = w)
    (h : (r.2 = none ∧ endOf sz r.1 (a + w) = k) ∨ ∃ q, r.2 = some q ∧ endOf sz r.1 (a + w) = q ∧ q < k) :
    ((((c, a) :: r.1, r.2) : List (Nat × Nat) × Option Nat).2 = none ∧ endOf sz (((c, a) :: r.1, r.2) : List (Nat × Nat) × Option Nat).1 p = k) ∨
    ∃ q, (((c, a) :: r.1, r.2) : List (Nat × Nat) × Option Nat).2 = some q ∧ endOf sz (((c, a) :: r.1, r.2) : List (Nat × Nat) × Option Nat).1 p = q ∧ q < k := by
  subst he
  exact h

theorem each_cut (sz : Nat → Nat) (s : ByteArray) (hsz : ∀ i, ¬ ((Utf8.decode s i).1 = 65533 ∧ (Utf8.decode s i).2 = 1) → sz (Utf8.decode s i).1 = (Utf8.decode s i).2) (k : Nat) (hk : k ≤ s.size) : ∀ (f g p : Nat), p ≤ k → s.size ≤ p + f → k ≤ p + g → (eachGo s f p).2 = none →
    ((eachGo (s.extract 0 k) g p).2 = none ∧ endOf sz (eachGo (s.extract 0 k) g p).1 p = k) ∨
    ∃ q, (eachGo (s.extract 0 k) g p).2 = some q ∧ endOf sz (eachGo (s.extract 0 k) g p).1 p = q ∧ q < k := by
  have hz : (s.extract 0 k).size = k := by simp; omega
  intro f
  induction f with
  | zero =>
    intro g p hp hf hg hn
    have : p = k := by omega
    rw [eachGo_end _ _ _ (by omega)]
    exact .inl ⟨rfl, this⟩
  | succ f ih =>
    intro g p hp hf hg hn
    by_cases hlt : p < k
    · obtain ⟨g, rfl⟩ : ∃ g', g = g' + 1 := ⟨g - 1, by omega⟩
      have hs : p < s.size := by omega
      have ho : ¬ ((Utf8.decode s p).1 = 65533 ∧ (Utf8.decode s p).2 = 1) := by
        intro ho
        rw [eachGo_odd s f p hs ho] at hn
        cases hn
      have hd := decode_take s k p hk hlt
      have hw := dec_width s p hs
      have hs1 := eachGo_step s f p hs ho
      have hg1 := fun h => eachGo_step (s.extract 0 k) g p (by omega) h
      have ho1 := fun h => eachGo_odd (s.extract 0 k) g p (by omega) h
      have hes := hsz p ho
      generalize Utf8.decode s p = d at *
      generalize Utf8.decode (s.extract 0 k) p = d' at *
      rw [hs1] at hn
      clear hs1
      rcases Nat.lt_or_ge k (p + d.2) with hc | hc
      · have e := hd.2 hc
        rw [ho1 (odd_of _ e)]
        exact .inr ⟨p, rfl, rfl, hlt⟩
      · have e := hd.1 hc ho
        rw [hg1 (no_odd_of _ _ e ho), e]
        exact cut_cons sz _ _ _ _ _ _ hes (ih g _ hc (by omega) (by omega) hn)
    · have : p = k := by omega
      rw [eachGo_end _ _ _ (by omega)]
      exact .inl ⟨rfl, this⟩

end Go.Proofs.YtcccnnfmhdogoaaDoor
