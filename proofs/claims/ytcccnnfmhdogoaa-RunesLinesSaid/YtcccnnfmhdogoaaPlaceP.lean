/-
  Plain laws on a place's line and column. No program here.
-/
import Derived.Test.YtcccnnfmhdogoaaRunesP
namespace Go.Proofs.Ytcccnnfmhdogoaa
open Go

/-- The line and the column of a place, from a place on, where they are l and c. -/
def placeGo (s : ByteArray) (at' : Int) : Nat → Nat → Nat → Nat → Nat × Nat
  | 0, _, l, c => (l, c)
  | f + 1, p, l, c =>
    if p < s.size ∧ (p : Int) < at' then
      if (Utf8.decode s p).1 = 10 then placeGo s at' f (p + (Utf8.decode s p).2) (l + 1) 1
      else placeGo s at' f (p + (Utf8.decode s p).2) l (c + 1)
    else (l, c)
def place (s : ByteArray) (at' : Int) : Nat × Nat := placeGo s at' (s.size + 1) 0 1 1

theorem placeGo_end (s : ByteArray) (at' : Int) (f p l c : Nat) (h : ¬ (p < s.size ∧ (p : Int) < at')) : placeGo s at' f p l c = (l, c) := by
  cases f with
  | zero => rfl
  | succ f => rw [placeGo, if_neg h]
theorem placeGo_feed (s : ByteArray) (at' : Int) (f p l c : Nat) (h : p < s.size ∧ (p : Int) < at') (h10 : (Utf8.decode s p).1 = 10) :
    placeGo s at' (f + 1) p l c = placeGo s at' f (p + (Utf8.decode s p).2) (l + 1) 1 := by rw [placeGo, if_pos h, if_pos h10]
theorem placeGo_step (s : ByteArray) (at' : Int) (f p l c : Nat) (h : p < s.size ∧ (p : Int) < at') (h10 : ¬ (Utf8.decode s p).1 = 10) :
    placeGo s at' (f + 1) p l c = placeGo s at' f (p + (Utf8.decode s p).2) l (c + 1) := by rw [placeGo, if_pos h, if_neg h10]

/-- Enough fuel is enough. -/
theorem placeGo_fuel (s : ByteArray) (at' : Int) : ∀ (f g p l c : Nat), s.size < p + f → s.size < p + g → placeGo s at' f p l c = placeGo s at' g p l c := by
  intro f
  induction f with
  | zero =>
    intro g p l c hf hg
    rw [placeGo_end _ _ _ _ _ _ (by omega), placeGo_end _ _ _ _ _ _ (by omega)]
  | succ f ih =>
    intro g p l c hf hg
    by_cases h : p < s.size ∧ (p : Int) < at'
    · obtain ⟨g, rfl⟩ : ∃ g', g = g' + 1 := ⟨g - 1, by omega⟩
      have hw := (dec_width s p h.1).1
      by_cases h10 : (Utf8.decode s p).1 = 10
      · rw [placeGo_feed _ _ _ _ _ _ h h10, placeGo_feed _ _ _ _ _ _ h h10, ih g _ _ _ (by omega) (by omega)]
      · rw [placeGo_step _ _ _ _ _ _ h h10, placeGo_step _ _ _ _ _ _ h h10, ih g _ _ _ (by omega) (by omega)]
    · rw [placeGo_end _ _ _ _ _ _ h, placeGo_end _ _ _ _ _ _ h]

theorem get_left (s t : ByteArray) (i : Nat) (h : i < s.size) : (s ++ t).get! i = s.get! i := by
  rw [get_eq _ _ (by simp; omega), get_eq _ _ h]
  simp [List.getElem_append_left, h]
theorem get_right (s t : ByteArray) (i : Nat) (h : i < t.size) : (s ++ t).get! (s.size + i) = t.get! i := by
  rw [get_eq _ _ (by simp; omega), get_eq _ _ h]
  simp

/-- What stands behind a line feed does not matter to what is decoded ahead of it. -/
theorem decode_feed (s t : ByteArray) (p : Nat) (h : p < s.size) (h10 : t.get! 0 = 10) (ht : 0 < t.size) : Utf8.decode (s ++ t) p = Utf8.decode s p := by
  have hf : (s ++ t).get! s.size = 10 := by
    have := get_right s t 0 ht
    rw [Nat.add_zero] at this
    rw [this, h10]
  have hz : (s ++ t).size = s.size + t.size := by simp
  have e0 := get_left s t p h
  have e1 : (p + 1 < s.size → ((s ++ t).get! (p + 1)).toNat = (s.get! (p + 1)).toNat) ∧ (p + 1 = s.size → ((s ++ t).get! (p + 1)).toNat = 10) := ⟨fun h => by rw [get_left s t _ h], fun h => by rw [h, hf]; rfl⟩
  have e2 : (p + 2 < s.size → ((s ++ t).get! (p + 2)).toNat = (s.get! (p + 2)).toNat) ∧ (p + 2 = s.size → ((s ++ t).get! (p + 2)).toNat = 10) := ⟨fun h => by rw [get_left s t _ h], fun h => by rw [h, hf]; rfl⟩
  have e3 : (p + 3 < s.size → ((s ++ t).get! (p + 3)).toNat = (s.get! (p + 3)).toNat) ∧ (p + 3 = s.size → ((s ++ t).get! (p + 3)).toNat = 10) := ⟨fun h => by rw [get_left s t _ h], fun h => by rw [h, hf]; rfl⟩
  rw [Lib.decode_at, Lib.decode_at, hz, e0]
  generalize (s.get! p).toNat = b0 at *
  generalize (s.get! (p + 1)).toNat = b1 at *
  generalize (s.get! (p + 2)).toNat = b2 at *
  generalize (s.get! (p + 3)).toNat = b3 at *
  generalize ((s ++ t).get! (p + 1)).toNat = c1 at *
  generalize ((s ++ t).get! (p + 2)).toNat = c2 at *
  generalize ((s ++ t).get! (p + 3)).toNat = c3 at *
  clear hf e0 hz h10
  generalize t.size = n at *
  generalize s.size = m at *
  rcases Nat.lt_or_ge (p + 1) m with h1 | h1
  · obtain rfl := e1.1 h1
    rcases Nat.lt_or_ge (p + 2) m with h2 | h2
    · obtain rfl := e2.1 h2
      rcases Nat.lt_or_ge (p + 3) m with h3 | h3
      · obtain rfl := e3.1 h3
        unfold Lib.decodeN
        have a1 : (1 < m + n - p) = (1 < m - p) := propext ⟨fun _ => by omega, fun _ => by omega⟩
        have a2 : (2 < m + n - p) = (2 < m - p) := propext ⟨fun _ => by omega, fun _ => by omega⟩
        have a3 : (3 < m + n - p) = (3 < m - p) := propext ⟨fun _ => by omega, fun _ => by omega⟩
        simp only [a1, a2, a3]
      · obtain rfl := e3.2 (by omega)
        unfold Lib.decodeN
        have a1 : (1 < m + n - p) = (1 < m - p) := propext ⟨fun _ => by omega, fun _ => by omega⟩
        have a2 : (2 < m + n - p) = (2 < m - p) := propext ⟨fun _ => by omega, fun _ => by omega⟩
        have a3 : (3 < m - p) = False := propext ⟨fun _ => by omega, fun h => h.elim⟩
        simp [a1, a2, a3]
    · obtain rfl := e2.2 (by omega)
      unfold Lib.decodeN
      have a1 : (1 < m + n - p) = (1 < m - p) := propext ⟨fun _ => by omega, fun _ => by omega⟩
      have a2 : (2 < m - p) = False := propext ⟨fun _ => by omega, fun h => h.elim⟩
      simp [a1, a2]
  · obtain rfl := e1.2 (by omega)
    unfold Lib.decodeN
    have a1 : (1 < m - p) = False := propext ⟨fun _ => by omega, fun h => h.elim⟩
    simp [a1]

/-- Up to a line feed that stands behind, the places are as they are without it. -/
theorem placeGo_left (s t : ByteArray) (h10 : t.get! 0 = 10) (ht : 0 < t.size) : ∀ (f p l c : Nat), p ≤ s.size →
    placeGo (s ++ t) s.size f p l c = placeGo s s.size f p l c := by
  intro f
  induction f with
  | zero => intros; rfl
  | succ f ih =>
    intro p l c hp
    have hz : (s ++ t).size = s.size + t.size := by simp
    by_cases h : p < s.size
    · have hw := (dec_width s p h).2
      have hd := decode_feed s t p h h10 ht
      by_cases h1 : (Utf8.decode s p).1 = 10
      · rw [placeGo_feed _ _ _ _ _ _ ⟨by omega, by omega⟩ (by rw [hd]; exact h1), placeGo_feed _ _ _ _ _ _ ⟨by omega, by omega⟩ h1, hd, ih _ _ _ hw]
      · rw [placeGo_step _ _ _ _ _ _ ⟨by omega, by omega⟩ (by rw [hd]; exact h1), placeGo_step _ _ _ _ _ _ ⟨by omega, by omega⟩ h1, hd, ih _ _ _ hw]
    · rw [placeGo_end _ _ _ _ _ _ (by omega), placeGo_end _ _ _ _ _ _ (by omega)]

/-- One place more, behind the line feed: a new line begins. -/
theorem placeGo_next (s t : ByteArray) (h10 : t.get! 0 = 10) (ht : 0 < t.size) : ∀ (f p l c : Nat), p ≤ s.size → s.size < p + f →
    placeGo (s ++ t) (s.size + 1) (f + 1) p l c = ((placeGo s s.size f p l c).1 + 1, 1) := by
  intro f
  induction f with
  | zero => intro p l c hp hf; omega
  | succ f ih =>
    intro p l c hp hf
    have hz : (s ++ t).size = s.size + t.size := by simp
    by_cases h : p < s.size
    · have hw := dec_width s p h
      have hd := decode_feed s t p h h10 ht
      by_cases h1 : (Utf8.decode s p).1 = 10
      · rw [placeGo_feed _ _ _ _ _ _ ⟨by omega, by omega⟩ (by rw [hd]; exact h1), placeGo_feed _ _ _ _ _ _ ⟨by omega, by omega⟩ h1, hd, ih _ _ _ hw.2 (by omega)]
      · rw [placeGo_step _ _ _ _ _ _ ⟨by omega, by omega⟩ (by rw [hd]; exact h1), placeGo_step _ _ _ _ _ _ ⟨by omega, by omega⟩ h1, hd, ih _ _ _ hw.2 (by omega)]
    · obtain rfl : p = s.size := by omega
      have hf : ((s ++ t).get! s.size).toNat = 10 := by
        have := get_right s t 0 ht
        rw [Nat.add_zero] at this
        rw [this, h10]; rfl
      have hd : Utf8.decode (s ++ t) s.size = (10, 1) := by
        rw [Lib.decode_at, hf]
        simp [Lib.decodeN]
      rw [placeGo_feed _ _ _ _ _ _ ⟨by omega, by omega⟩ (by rw [hd]), hd, placeGo_end _ _ _ _ _ _ (by omega), placeGo_end _ _ _ _ _ _ (by omega)]

theorem place_left (s t : ByteArray) (h10 : t.get! 0 = 10) (ht : 0 < t.size) : place (s ++ t) s.size = place s s.size := by
  unfold place
  rw [placeGo_left s t h10 ht _ _ _ _ (Nat.zero_le _)]
  exact placeGo_fuel s _ _ _ _ _ _ (by simp; omega) (by omega)
theorem place_next (s t : ByteArray) (h10 : t.get! 0 = 10) (ht : 0 < t.size) : place (s ++ t) (s.size + 1) = ((place s s.size).1 + 1, 1) := by
  unfold place
  rw [placeGo_next s t h10 ht _ _ _ _ (Nat.zero_le _) (by simp; omega)]
  rw [placeGo_fuel s _ _ (s.size + 1) _ _ _ (by simp; omega) (by omega)]

theorem placeGo_le (s : ByteArray) (at' : Int) : ∀ (f p l c : Nat), l ≤ p + 1 → p ≤ s.size → (placeGo s at' f p l c).1 ≤ s.size + 1 := by
  intro f
  induction f with
  | zero => intro p l c h hp; show l ≤ _; omega
  | succ f ih =>
    intro p l c hl hp
    by_cases h : p < s.size ∧ (p : Int) < at'
    · have hw := dec_width s p h.1
      by_cases h10 : (Utf8.decode s p).1 = 10
      · rw [placeGo_feed _ _ _ _ _ _ h h10]; exact ih _ _ _ (by omega) hw.2
      · rw [placeGo_step _ _ _ _ _ _ h h10]; exact ih _ _ _ (by omega) hw.2
    · rw [placeGo_end _ _ _ _ _ _ h]; show l ≤ _; omega
theorem place_le (s : ByteArray) (at' : Int) : (place s at').1 ≤ s.size + 1 := placeGo_le s at' _ _ _ _ (by omega) (by omega)

end Go.Proofs.Ytcccnnfmhdogoaa
