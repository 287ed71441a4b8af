/-
  Plain laws on the runes of a text: their places, their classes, blanks, names, numbers, signs. No program here.
-/
import Derived.Test.YtcccnnfmhdogoaaRunesP
import Derived.Test.YtcccnnfmhdogoaaRunesC
namespace Go.Proofs.Ytcccnnfmhdogoaa
open Go
set_option linter.unusedVariables false

/-- The class of rune n of a row; -1 behind its end. -/
def classAt (L : List (Nat × Nat)) (n : Nat) : Int := match L[n]? with
  | some x => classOf x.1
  | none => -1
/-- Where the runes end. -/
def finOf (s : ByteArray) (bad : Option Nat) : Nat := match bad with
  | some q => q
  | none => s.size
def placeIn (fin : Nat) (L : List (Nat × Nat)) (n : Nat) : Nat := match L[n]? with
  | some x => x.2
  | none => fin
def placeAt (s : ByteArray) (bad : Option Nat) (L : List (Nat × Nat)) (n : Nat) : Nat := placeIn (finOf s bad) L n

theorem runeCells_at (l : List (Nat × Nat)) (k : Nat) (h : k < l.length) :
    (runeCells l)[k * 2]? = some (.int .i32 (l[k]).1) ∧ (runeCells l)[k * 2 + 1]? = some (.int .i64 (l[k]).2) := by
  induction l generalizing k with
  | nil => simp at h
  | cons x l ih =>
    cases k with
    | zero => simp [runeCells]
    | succ k =>
      have := ih k (by simpa using h)
      simp only [runeCells, List.flatMap_cons, List.getElem_cons_succ] at this ⊢
      rw [List.getElem?_append_right (by simp; omega), List.getElem?_append_right (by simp; omega)]
      simp only [List.length_cons, List.length_nil]
      have e1 : (k + 1) * 2 - (0 + 1 + 1) = k * 2 := by omega
      have e2 : (k + 1) * 2 + 1 - (0 + 1 + 1) = k * 2 + 1 := by omega
      rw [e1, e2]
      exact this

/-- A row of runes that stand one behind the other in a text. -/
def Chain (s : ByteArray) (fin : Nat) : Nat → List (Nat × Nat) → Prop
  | p, [] => p = fin
  | p, (c, a) :: l => a = p ∧ p < s.size ∧ (Utf8.decode s p).1 = c ∧ ¬ ((Utf8.decode s p).1 = 65533 ∧ (Utf8.decode s p).2 = 1) ∧ Chain s fin (p + (Utf8.decode s p).2) l

theorem eachGo_chain (s : ByteArray) : ∀ f p, s.size ≤ p + f → p ≤ s.size → Chain s (finOf s (eachGo s f p).2) p (eachGo s f p).1 ∧ finOf s (eachGo s f p).2 ≤ s.size := by
  intro f
  induction f with
  | zero =>
    intro p hf hp
    have : p = s.size := by omega
    rw [eachGo_end s 0 p (by omega)]
    exact ⟨this, Nat.le_refl _⟩
  | succ f ih =>
    intro p hf hp
    by_cases hlt : p < s.size
    · by_cases ho : (Utf8.decode s p).1 = 65533 ∧ (Utf8.decode s p).2 = 1
      · rw [eachGo_odd s f p hlt ho]
        exact ⟨rfl, hp⟩
      · rw [eachGo_step s f p hlt ho]
        have hw := dec_width s p hlt
        have := ih (p + (Utf8.decode s p).2) (by omega) hw.2
        exact ⟨⟨rfl, hlt, rfl, ho, this.1⟩, this.2⟩
    · rw [eachGo_end s (f + 1) p hlt]
      exact ⟨(by omega : p = s.size), Nat.le_refl _⟩
theorem each_chain (s : ByteArray) : Chain s (finOf s (each s).2) 0 (each s).1 ∧ finOf s (each s).2 ≤ s.size := eachGo_chain s s.size 0 (by omega) (by omega)

theorem chain_le (s : ByteArray) (fin : Nat) : ∀ l p, Chain s fin p l → p ≤ fin := by
  intro l
  induction l with
  | nil => intro p h; exact Nat.le_of_eq h
  | cons x l ih =>
    intro p h
    obtain ⟨c, a⟩ := x
    have := ih _ h.2.2.2.2
    omega
theorem placeIn_zero (s : ByteArray) (fin p : Nat) (l : List (Nat × Nat)) (h : Chain s fin p l) : placeIn fin l 0 = p := by
  cases l with
  | nil => exact h.symm
  | cons x l => obtain ⟨c, a⟩ := x; exact h.1
theorem placeIn_drop (fin : Nat) (l : List (Nat × Nat)) (n m : Nat) : placeIn fin (l.drop n) m = placeIn fin l (n + m) := by
  simp [placeIn]
theorem chain_drop (s : ByteArray) (fin : Nat) : ∀ (n : Nat) (l : List (Nat × Nat)) (p : Nat), Chain s fin p l → Chain s fin (placeIn fin l n) (l.drop n) := by
  intro n
  induction n with
  | zero => intro l p h; rw [placeIn_zero s fin p l h]; exact h
  | succ n ih =>
    intro l p h
    cases l with
    | nil => exact (rfl : placeIn fin [] (n + 1) = fin)
    | cons x l =>
      obtain ⟨c, a⟩ := x
      exact ih l _ h.2.2.2.2
theorem place_mono (s : ByteArray) (fin p : Nat) (l : List (Nat × Nat)) (h : Chain s fin p l) (n m : Nat) (hnm : n ≤ m) : placeIn fin l n ≤ placeIn fin l m ∧ placeIn fin l m ≤ fin := by
  have hm := chain_le s fin _ _ (chain_drop s fin m l p h)
  refine ⟨?_, hm⟩
  obtain ⟨d, rfl⟩ : ∃ d, m = n + d := ⟨m - n, by omega⟩
  rw [← placeIn_drop]
  have hc := chain_drop s fin n l p h
  generalize l.drop n = r at *
  generalize placeIn fin l n = q at *
  clear hm h hnm
  induction d generalizing r q with
  | zero => rw [placeIn_zero s fin q r hc]; exact Nat.le_refl _
  | succ d ih =>
    cases r with
    | nil => exact Nat.le_of_eq hc
    | cons x r =>
      obtain ⟨c, a⟩ := x
      have := ih r _ hc.2.2.2.2
      simp only [placeIn, List.getElem?_cons_succ] at this ⊢
      omega
theorem placeAt_mono (s : ByteArray) (n m : Nat) (hnm : n ≤ m) : placeAt s (each s).2 (each s).1 n ≤ placeAt s (each s).2 (each s).1 m ∧ placeAt s (each s).2 (each s).1 m ≤ s.size := by
  have h := each_chain s
  have := place_mono s _ 0 _ h.1 n m hnm
  exact ⟨this.1, Nat.le_trans this.2 h.2⟩

/-- Where the runes end, the text ends or a byte begins no rune. -/
theorem eachGo_fin (s : ByteArray) : ∀ f p, s.size ≤ p + f → p ≤ s.size →
    finOf s (eachGo s f p).2 = s.size ∨ (finOf s (eachGo s f p).2 < s.size ∧ (Utf8.decode s (finOf s (eachGo s f p).2)).1 = 65533 ∧ (Utf8.decode s (finOf s (eachGo s f p).2)).2 = 1) := by
  intro f
  induction f with
  | zero => intro p hf hp; exact .inl rfl
  | succ f ih =>
    intro p hf hp
    by_cases hlt : p < s.size
    · by_cases ho : (Utf8.decode s p).1 = 65533 ∧ (Utf8.decode s p).2 = 1
      · rw [eachGo_odd s f p hlt ho]
        exact .inr ⟨hlt, ho⟩
      · rw [eachGo_step s f p hlt ho]
        have hw := dec_width s p hlt
        exact ih (p + (Utf8.decode s p).2) (by omega) hw.2
    · rw [eachGo_end s (f + 1) p hlt]
      exact .inl rfl
theorem each_fin (s : ByteArray) : finOf s (each s).2 = s.size ∨ (finOf s (each s).2 < s.size ∧ (Utf8.decode s (finOf s (each s).2)).1 = 65533 ∧ (Utf8.decode s (finOf s (each s).2)).2 = 1) :=
  eachGo_fin s s.size 0 (by omega) (by omega)

/-- Do runes begin with these bytes? -/
def fitsR : List (Nat × Nat) → List UInt8 → Bool
  | _, [] => true
  | [], _ :: _ => false
  | (c, _) :: r, b :: l => decide (c = b.toNat) && fitsR r l
theorem fitsR_le : ∀ (l : List UInt8) (r : List (Nat × Nat)), fitsR r l = true → l.length ≤ r.length := by
  intro l
  induction l with
  | nil => intro r h; simp
  | cons b l ih =>
    intro r h
    cases r with
    | nil => simp [fitsR] at h
    | cons x r =>
      obtain ⟨c, a⟩ := x
      simp only [fitsR, Bool.and_eq_true] at h
      have := ih r h.2
      simp; omega

theorem decode_byte (s : ByteArray) (p : Nat) (h : p < s.size) (hb : (s.get! p).toNat < 128) : Utf8.decode s p = ((s.get! p).toNat, 1) := by
  rw [Lib.decode_at]
  generalize (s.get! p).toNat = b0 at *
  simp [Lib.decodeN, hb]
theorem decode_low (s : ByteArray) (p : Nat) (h : p < s.size) (hc : (Utf8.decode s p).1 < 128) : (s.get! p).toNat < 128 := by
  rcases Nat.lt_or_ge (s.get! p).toNat 128 with hb | hb
  · exact hb
  · have := (decode_high s p h (by
      have e : s[p]'h = s.get! p := by
        have := get_at s p h
        simpa using this.symm
      rw [e]; exact hb)).1
    omega

theorem drop_get (s : ByteArray) (p : Nat) (h : p < s.size) : s.data.toList.drop p = s.get! p :: s.data.toList.drop (p + 1) := by
  rw [get_eq s p h, List.drop_eq_getElem_cons (by simpa using h)]
theorem hasPre_eq (s q : ByteArray) (p : Nat) (h : p ≤ s.size) : hasPre (s.extract p s.size) q = List.isPrefixOf q.data.toList (s.data.toList.drop p) := by
  unfold hasPre
  congr 1
  rw [ByteArray.data_extract, Array.toList_extract]
  simp only [List.extract]
  exact List.take_of_length_le (by simp)

/-- A text goes on with plain bytes just if its runes do. -/
theorem pre_fits (s : ByteArray) (fin : Nat) (hfin : fin = s.size ∨ (fin < s.size ∧ (Utf8.decode s fin).1 = 65533 ∧ (Utf8.decode s fin).2 = 1)) :
    ∀ (l : List UInt8), (∀ b ∈ l, b.toNat < 128) → ∀ (r : List (Nat × Nat)) (p : Nat), Chain s fin p r → p ≤ s.size → List.isPrefixOf l (s.data.toList.drop p) = fitsR r l := by
  intro l
  induction l with
  | nil => intro hl r p hc hp; cases r <;> simp [fitsR]
  | cons b l ih =>
    intro hl r p hc hp
    have hb := hl b (by simp)
    have hl' : ∀ c ∈ l, c.toNat < 128 := fun c hcm => hl c (by simp [hcm])
    by_cases hlt : p < s.size
    · rw [drop_get s p hlt]
      simp only [List.isPrefixOf]
      cases r with
      | nil =>
        have hpf : p = fin := hc
        rcases hfin with h | ⟨h1, h2, h3⟩
        · omega
        · subst hpf
          have : (b == s.get! p) = false := by
            rw [beq_eq_false_iff_ne]
            rintro rfl
            have := decode_byte s p hlt hb
            rw [this] at h2
            simp at h2
            omega
          rw [this]
          rfl
      | cons x r =>
        obtain ⟨c, a⟩ := x
        obtain ⟨_, _, hcc, hno, hch⟩ := hc
        simp only [fitsR]
        by_cases he : b = s.get! p
        · subst he
          have hd := decode_byte s p hlt hb
          rw [hd] at hcc hch
          have : c = (s.get! p).toNat := hcc.symm
          rw [decide_eq_true this, ih hl' r (p + 1) hch (by omega)]
          simp
        · have hne : ¬ c = b.toNat := by
            intro e
            apply he
            have hlow := decode_low s p hlt (by omega)
            have hd := decode_byte s p hlt hlow
            rw [hd] at hcc
            have : b.toNat = (s.get! p).toNat := by omega
            exact UInt8.toNat_inj.1 this
          rw [decide_eq_false hne, show (b == s.get! p) = false by rw [beq_eq_false_iff_ne]; exact he]
          rfl
    · have hnil : s.data.toList.drop p = [] := List.drop_eq_nil_of_le (by simp; omega)
      rw [hnil]
      cases r with
      | nil => rfl
      | cons x r => obtain ⟨c, a⟩ := x; exact absurd hc.2.1 hlt

end Go.Proofs.Ytcccnnfmhdogoaa
