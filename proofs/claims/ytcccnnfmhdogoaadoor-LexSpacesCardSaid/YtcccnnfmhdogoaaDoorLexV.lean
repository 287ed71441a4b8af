/-
  Tokens of a text that stands among blanks: the same ones, moved. Plain Lean.
-/
import Derived.Test.YtcccnnfmhdogoaaDoorRrT
namespace Go.Proofs.YtcccnnfmhdogoaaDoor
open Go Go.RowKit
set_option linter.unusedVariables false

/-! Bytes of two texts side by side. -/
theorem get_app_left (a b : ByteArray) (i : Nat) (h : i < a.size) : (a ++ b).get! i = a.get! i := by
  show (a ++ b).data[i]! = a.data[i]!
  have h' : i < a.data.size := h
  rw [ByteArray.data_append, getElem!_def, getElem!_def, Array.getElem?_append_left h']
theorem get_app_right (a b : ByteArray) (i : Nat) : (a ++ b).get! (a.size + i) = b.get! i := by
  show (a ++ b).data[a.size + i]! = b.data[i]!
  rw [ByteArray.data_append, getElem!_def, getElem!_def, Array.getElem?_append_right (show a.data.size ≤ a.size + i from Nat.le_add_right _ _)]
  rw [show a.size + i - a.data.size = i from Nat.add_sub_cancel_left ..]
theorem decode_right (a b : ByteArray) (p : Nat) : Utf8.decode (a ++ b) (a.size + p) = Utf8.decode b p := by
  unfold Utf8.decode
  simp only [ByteArray.size_append, Nat.add_assoc, get_app_right, Nat.add_lt_add_iff_left]
/-- What a lead byte and those behind it yield: the sums left aside. -/
def dec2 (b0 b1 : Nat) : Nat × Nat :=
  let c := (b0 % 32) * 64 + b1 % 64
  if c ≥ 0x80 then (c, 2) else (Utf8.runeError, 1)
def dec3 (b0 b1 b2 : Nat) : Nat × Nat :=
  let c := (b0 % 16) * 4096 + (b1 % 64) * 64 + b2 % 64
  if c ≥ 0x800 && Utf8.valid c then (c, 3) else (Utf8.runeError, 1)
def dec4 (b0 b1 b2 b3 : Nat) : Nat × Nat :=
  let c := (b0 % 8) * 262144 + (b1 % 64) * 4096 + (b2 % 64) * 64 + b3 % 64
  if c ≥ 0x10000 && Utf8.valid c then (c, 4) else (Utf8.runeError, 1)
def decF (b0 : Nat) (x2 x3 x4 : Nat × Nat) (c1 c2 c3 : Bool) : Nat × Nat :=
  if b0 < 0x80 then (b0, 1)
  else if b0 / 32 == 6 && c1 then x2
  else if b0 / 16 == 14 && c1 && c2 then x3
  else if b0 / 8 == 30 && c1 && c2 && c3 then x4
  else (Utf8.runeError, 1)
def byteAt (s : ByteArray) (i k : Nat) : Nat := (s.get! (i + k)).toNat
def contAt (s : ByteArray) (i k : Nat) : Bool := decide (i + k < s.size) && byteAt s i k / 64 == 2
theorem decode_F (s : ByteArray) (i : Nat) : Utf8.decode s i = decF (byteAt s i 0) (dec2 (byteAt s i 0) (byteAt s i 1)) (dec3 (byteAt s i 0) (byteAt s i 1) (byteAt s i 2)) (dec4 (byteAt s i 0) (byteAt s i 1) (byteAt s i 2) (byteAt s i 3)) (contAt s i 1) (contAt s i 2) (contAt s i 3) := rfl
theorem decF_mono {b0 : Nat} {x2 x3 x4 y2 y3 y4 : Nat × Nat} {c1 c2 c3 d1 d2 d3 : Bool} (h : decF b0 x2 x3 x4 c1 c2 c3 ≠ (Utf8.runeError, 1)) (h1 : c1 = true → d1 = true ∧ y2 = x2) (h2 : c1 = true → c2 = true → d2 = true ∧ y3 = x3) (h3 : c1 = true → c2 = true → c3 = true → d3 = true ∧ y4 = x4) :
    decF b0 y2 y3 y4 d1 d2 d3 = decF b0 x2 x3 x4 c1 c2 c3 := by
  have k12 : (b0 / 32 == 6) = true → (b0 / 16 == 14) = false ∧ (b0 / 8 == 30) = false := by
    intro e
    have e : b0 / 32 = 6 := by simpa using e
    exact ⟨by simp; omega, by simp; omega⟩
  have k23 : (b0 / 16 == 14) = true → (b0 / 8 == 30) = false := by
    intro e
    have e : b0 / 16 = 14 := by simpa using e
    simp; omega
  unfold decF at h ⊢
  by_cases hb : b0 < 0x80
  · rw [if_pos hb, if_pos hb]
  · rw [if_neg hb] at h
    rw [if_neg hb, if_neg hb]
    generalize (b0 / 32 == 6) = k1 at *
    generalize (b0 / 16 == 14) = k2 at *
    generalize (b0 / 8 == 30) = k3 at *
    cases c1 with
    | false => simp at h
    | true =>
      obtain ⟨rfl, rfl⟩ := h1 rfl
      cases k1 with
      | true => simp
      | false =>
        cases c2 with
        | false => simp at h
        | true =>
          obtain ⟨rfl, rfl⟩ := h2 rfl rfl
          cases k2 with
          | true => simp
          | false =>
            cases c3 with
            | false => simp at h
            | true =>
              obtain ⟨rfl, rfl⟩ := h3 rfl rfl rfl
              simp
theorem decode_left (a b : ByteArray) (p : Nat) (hp : p < a.size) (ho : ¬ ((Utf8.decode a p).1 = 65533 ∧ (Utf8.decode a p).2 = 1)) : Utf8.decode (a ++ b) p = Utf8.decode a p := by
  have gk : ∀ k, p + k < a.size → byteAt (a ++ b) p k = byteAt a p k := fun k h => by unfold byteAt; rw [get_app_left a b _ h]
  have ck : ∀ k, contAt a p k = true → contAt (a ++ b) p k = true ∧ byteAt (a ++ b) p k = byteAt a p k := fun k h => by
    unfold contAt at h ⊢
    rw [Bool.and_eq_true] at h
    have h1 := of_decide_eq_true h.1
    rw [gk k h1]
    exact ⟨by rw [h.2, decide_eq_true (show p + k < (a ++ b).size by rw [ByteArray.size_append]; omega)]; rfl, rfl⟩
  have hne : Utf8.decode a p ≠ (Utf8.runeError, 1) := fun e => ho (by rw [e]; exact ⟨rfl, rfl⟩)
  rw [decode_F a p] at hne ⊢
  rw [decode_F (a ++ b) p, gk 0 (by omega)]
  refine decF_mono hne (fun h1 => ?_) (fun h1 h2 => ?_) (fun h1 h2 h3 => ?_)
  · obtain ⟨d1, e1⟩ := ck 1 h1
    exact ⟨d1, by rw [e1]⟩
  · obtain ⟨d1, e1⟩ := ck 1 h1
    obtain ⟨d2, e2⟩ := ck 2 h2
    exact ⟨d2, by rw [e1, e2]⟩
  · obtain ⟨d1, e1⟩ := ck 1 h1
    obtain ⟨d2, e2⟩ := ck 2 h2
    obtain ⟨d3, e3⟩ := ck 3 h3
    exact ⟨d3, by rw [e1, e2, e3]⟩

/-! Runes of two texts side by side. -/
def mvL (d : Nat) (r : List (Nat × Nat)) : List (Nat × Nat) := r.map fun x => (x.1, x.2 + d)
theorem eachGo_more (s : ByteArray) : ∀ f p g, s.size ≤ p + f → f ≤ g → eachGo s g p = eachGo s f p := by
  intro f
  induction f with
  | zero => intro p g h _; rw [eachGo_end s g p (by omega), eachGo_end s 0 p (by omega)]
  | succ f ih =>
    intro p g h hg
    obtain ⟨g, rfl⟩ : ∃ g', g = g' + 1 := ⟨g - 1, by omega⟩
    by_cases hp : p < s.size
    · by_cases ho : (Utf8.decode s p).1 = 65533 ∧ (Utf8.decode s p).2 = 1
      · rw [eachGo_odd s g p hp ho, eachGo_odd s f p hp ho]
      · have hw := dec_width s p hp
        rw [eachGo_step s g p hp ho, eachGo_step s f p hp ho, ih _ g (by omega) (by omega)]
    · rw [eachGo_end s _ p hp, eachGo_end s _ p hp]
theorem eachGo_right (a b : ByteArray) : ∀ f p, eachGo (a ++ b) f (a.size + p) = (mvL a.size (eachGo b f p).1, (eachGo b f p).2.map (· + a.size)) := by
  intro f
  induction f with
  | zero => intro p; rfl
  | succ f ih =>
    intro p
    have hs : (a ++ b).size = a.size + b.size := ByteArray.size_append
    by_cases hp : p < b.size
    · by_cases ho : (Utf8.decode b p).1 = 65533 ∧ (Utf8.decode b p).2 = 1
      · rw [eachGo_odd b f p hp ho, eachGo_odd (a ++ b) f (a.size + p) (by omega) (by rw [decode_right]; exact ho)]
        simp [mvL, Nat.add_comm]
      · rw [eachGo_step b f p hp ho, eachGo_step (a ++ b) f (a.size + p) (by omega) (by rw [decode_right]; exact ho), decode_right, Nat.add_assoc, ih]
        simp [mvL, Nat.add_comm]
    · rw [eachGo_end b _ p hp, eachGo_end (a ++ b) _ _ (by omega)]
      rfl
theorem eachGo_left (a b : ByteArray) : ∀ f p g, a.size ≤ p + f → p ≤ a.size → (eachGo a f p).2 = none → f + b.size ≤ g → eachGo (a ++ b) g p = ((eachGo a f p).1 ++ mvL a.size (eachGo b b.size 0).1, (eachGo b b.size 0).2.map (· + a.size)) := by
  intro f
  induction f with
  | zero =>
    intro p g h hp _ hg
    have e : p = a.size + 0 := by omega
    rw [eachGo_end a 0 p (by omega), e, eachGo_right, eachGo_more b b.size 0 g (by omega) (by omega)]
    rfl
  | succ f ih =>
    intro p g h hp hn hg
    by_cases hlt : p < a.size
    · by_cases ho : (Utf8.decode a p).1 = 65533 ∧ (Utf8.decode a p).2 = 1
      · rw [eachGo_odd a f p hlt ho] at hn; cases hn
      · have hw := dec_width a p hlt
        have hs : (a ++ b).size = a.size + b.size := ByteArray.size_append
        obtain ⟨g, rfl⟩ : ∃ g', g = g' + 1 := ⟨g - 1, by omega⟩
        rw [eachGo_step a f p hlt ho] at hn
        have hd := decode_left a b p hlt ho
        rw [eachGo_step a f p hlt ho, eachGo_step (a ++ b) g p (by omega) (by rw [hd]; exact ho), hd, ih _ g (by omega) (by omega) hn (by omega)]
        rfl
    · have e : p = a.size + 0 := by omega
      rw [eachGo_end a _ p hlt, e, eachGo_right, eachGo_more b b.size 0 g (by omega) (by omega)]
      rfl
theorem each_app (a b : ByteArray) (h : (each a).2 = none) : each (a ++ b) = ((each a).1 ++ mvL a.size (each b).1, (each b).2.map (· + a.size)) :=
  eachGo_left a b a.size 0 _ (by omega) (by omega) h (by rw [ByteArray.size_append]; omega)

/-! Blanks. -/
theorem mvL_drop (d n : Nat) (r : List (Nat × Nat)) : mvL d (r.drop n) = (mvL d r).drop n := by unfold mvL; rw [List.map_drop]
theorem mvL_len (d : Nat) (r : List (Nat × Nat)) : (mvL d r).length = r.length := by unfold mvL; rw [List.length_map]
theorem blank_mv (d : Nat) : ∀ (r : List (Nat × Nat)) (b : Bool), blankGo b (mvL d r) = blankGo b r := by
  intro r
  induction r with
  | nil => intro b; cases b <;> rfl
  | cons x r ih =>
    intro b
    obtain ⟨c, p⟩ := x
    have ih1 : ∀ b, blankGo b (r.map fun x => (x.1, x.2 + d)) = blankGo b r := ih
    cases b <;> simp [mvL, blankGo, ih1]
/-- A row of blanks that ends a comment. -/
def BlankT (T : List (Nat × Nat)) : Prop := ∀ b, blankGo b T = T.length
theorem blank_app {T : List (Nat × Nat)} (hT : BlankT T) : ∀ (r : List (Nat × Nat)) (b : Bool), (r ++ T).drop (blankGo b (r ++ T)) = if r.drop (blankGo b r) = [] then [] else r.drop (blankGo b r) ++ T := by
  intro r
  induction r with
  | nil => intro b; rw [List.nil_append, hT b]; simp
  | cons x r ih =>
    intro b
    obtain ⟨c, p⟩ := x
    cases b with
    | true =>
      rw [List.cons_append, blankGo, blankGo]
      split <;> rw [List.drop_succ_cons, List.drop_succ_cons, ih]
    | false =>
      rw [List.cons_append, blankGo, blankGo]
      split
      · rw [List.drop_succ_cons, List.drop_succ_cons, ih]
      · split
        · rw [List.drop_succ_cons, List.drop_succ_cons, ih]
        · simp

/-! Tokens. -/
/-- A row behind a text: it begins with a line feed. -/
theorem more_app (d q : Nat) (T : List (Nat × Nat)) : ∀ r : List (Nat × Nat), moreN (mvL d r ++ (10, q) :: T) = moreN r := by
  intro r
  induction r with
  | nil =>
    show moreN ((10, q) :: T) = 0
    rw [moreN, if_neg (by decide)]
  | cons x r ih =>
    obtain ⟨c, p⟩ := x
    show moreN ((c, p + d) :: (mvL d r ++ (10, q) :: T)) = _
    rw [moreN, moreN, ih]
theorem dig_app (d q : Nat) (T : List (Nat × Nat)) : ∀ r : List (Nat × Nat), digN (mvL d r ++ (10, q) :: T) = digN r := by
  intro r
  induction r with
  | nil =>
    show digN ((10, q) :: T) = 0
    rw [digN, if_neg (by decide)]
  | cons x r ih =>
    obtain ⟨c, p⟩ := x
    show digN ((c, p + d) :: (mvL d r ++ (10, q) :: T)) = _
    rw [digN, digN, ih]
theorem cap_app (cap d q : Nat) (T : List (Nat × Nat)) : ∀ (r : List (Nat × Nat)) (acc : Nat), numCap cap acc (mvL d r ++ (10, q) :: T) = numCap cap acc r := by
  intro r
  induction r with
  | nil =>
    intro acc
    show numCap cap acc ((10, q) :: T) = acc
    rw [numCap, if_neg (by decide)]
  | cons x r ih =>
    intro acc
    obtain ⟨c, p⟩ := x
    show numCap cap acc ((c, p + d) :: (mvL d r ++ (10, q) :: T)) = _
    rw [numCap, numCap, ih]
theorem fits_app (d q : Nat) (T : List (Nat × Nat)) : ∀ (l : List UInt8) (r : List (Nat × Nat)), (∀ b ∈ l, b.toNat ≠ 10) → fitsR (mvL d r ++ (10, q) :: T) l = fitsR r l := by
  intro l
  induction l with
  | nil => intro r _; cases r <;> rfl
  | cons b l ih =>
    intro r hb
    cases r with
    | nil =>
      show fitsR ((10, q) :: T) (b :: l) = false
      rw [fitsR, decide_eq_false (fun e => hb b (List.mem_cons_self ..) e.symm)]
      rfl
    | cons x r =>
      obtain ⟨c, p⟩ := x
      show fitsR ((c, p + d) :: (mvL d r ++ (10, q) :: T)) (b :: l) = _
      rw [fitsR, fitsR, ih r fun b hb' => hb b (List.mem_cons_of_mem _ hb')]
theorem signs_no10 : ∀ sg ∈ signsB, ∀ b ∈ sg.data.toList, b.toNat ≠ 10 := by decide +kernel
theorem sign_app (d q : Nat) (T r : List (Nat × Nat)) : signOf (mvL d r ++ (10, q) :: T) = signOf r := by
  unfold signOf
  have h : ∀ l : List ByteArray, (∀ sg ∈ l, ∀ b ∈ sg.data.toList, b.toNat ≠ 10) → (l.find? fun sg => fitsR (mvL d r ++ (10, q) :: T) sg.data.toList) = l.find? fun sg => fitsR r sg.data.toList := by
    intro l
    induction l with
    | nil => intro _; rfl
    | cons a l ih =>
      intro ha
      rw [List.find?_cons, List.find?_cons, fits_app d q T _ r (ha a (List.mem_cons_self ..)), ih fun sg h => ha sg (List.mem_cons_of_mem _ h)]
  exact h _ signs_no10
theorem place_app (fin fin' d : Nat) (T r : List (Nat × Nat)) (n : Nat) (h : n ≤ r.length) : placeIn fin' (mvL d r ++ (10, fin + d) :: T) n = placeIn fin r n + d := by
  unfold placeIn
  by_cases hn : n < r.length
  · rw [List.getElem?_append_left (by rw [mvL_len]; exact hn), mvL, List.getElem?_map, List.getElem?_eq_getElem hn]
    rfl
  · have e : n = r.length := by omega
    subst e
    rw [List.getElem?_append_right (by rw [mvL_len]; exact Nat.le_refl _), mvL_len, Nat.sub_self, List.getElem?_eq_none (Nat.le_refl _)]
    rfl
theorem dig_le : ∀ r : List (Nat × Nat), digN r ≤ r.length := by
  intro r
  induction r with
  | nil => simp [digN]
  | cons x r ih =>
    obtain ⟨c, a⟩ := x
    rw [digN]
    split <;> simp <;> omega
theorem tok_len_le (s : ByteArray) (fin : Nat) (r : List (Nat × Nat)) : (tokR s fin r).len ≤ r.length := by
  cases r with
  | nil => exact Nat.le_refl _
  | cons x r =>
    obtain ⟨c, p⟩ := x
    have hv : tokR s fin ((c, p) :: r) = if classOf c = 1 then nameR s fin ((c, p) :: r) else if classOf c = 2 then numR fin c ((c, p) :: r) else if classOf c = 4 then signR fin ((c, p) :: r) else noTok := rfl
    rw [hv]
    by_cases c1 : classOf c = 1
    · rw [if_pos c1]; exact moreN_le _
    · rw [if_neg c1]
      by_cases c2 : classOf c = 2
      · rw [if_pos c2]; exact dig_le _
      · rw [if_neg c2]
        by_cases c4 : classOf c = 4
        · rw [if_pos c4]
          unfold signR
          cases hs : signOf ((c, p) :: r) with
          | none => exact Nat.zero_le _
          | some sg =>
            have h1 := List.find?_some hs
            exact fitsR_le _ _ h1
        · rw [if_neg c4]; exact Nat.zero_le _
def TokR.mv (d : Nat) (t : TokR) : TokR := ⟨t.kind, t.text, t.num, t.at' + d, t.ok, t.len⟩
theorem tok_app {s t : ByteArray} {fin fin' d : Nat} {T r : List (Nat × Nat)} (hr : r ≠ []) (hok : (tokR s fin r).ok = true) (hx : ∀ n m, n ≤ r.length → m ≤ r.length → t.extract (placeIn fin r n + d) (placeIn fin r m + d) = s.extract (placeIn fin r n) (placeIn fin r m)) :
    tokR t fin' (mvL d r ++ (10, fin + d) :: T) = (tokR s fin r).mv d := by
  cases r with
  | nil => exact absurd rfl hr
  | cons x r =>
    obtain ⟨c, p⟩ := x
    have e : mvL d ((c, p) :: r) ++ (10, fin + d) :: T = (c, p + d) :: (mvL d r ++ (10, fin + d) :: T) := rfl
    have hp := fun n h => place_app fin fin' d T ((c, p) :: r) n h
    have hm := more_app d (fin + d) T ((c, p) :: r)
    have hd := dig_app d (fin + d) T ((c, p) :: r)
    have hc := fun acc => cap_app 100 d (fin + d) T ((c, p) :: r) acc
    have hs := sign_app d (fin + d) T ((c, p) :: r)
    have hu : tokR t fin' (mvL d ((c, p) :: r) ++ (10, fin + d) :: T) = if classOf c = 1 then nameR t fin' (mvL d ((c, p) :: r) ++ (10, fin + d) :: T) else if classOf c = 2 then numR fin' c (mvL d ((c, p) :: r) ++ (10, fin + d) :: T) else if classOf c = 4 then signR fin' (mvL d ((c, p) :: r) ++ (10, fin + d) :: T) else noTok := rfl
    have hv : tokR s fin ((c, p) :: r) = if classOf c = 1 then nameR s fin ((c, p) :: r) else if classOf c = 2 then numR fin c ((c, p) :: r) else if classOf c = 4 then signR fin ((c, p) :: r) else noTok := rfl
    rw [hu]
    rw [hv] at hok ⊢
    generalize mvL d ((c, p) :: r) ++ (10, fin + d) :: T = R at *
    generalize (c, p) :: r = r0 at *
    by_cases c1 : classOf c = 1
    · rw [if_pos c1, if_pos c1]
      unfold nameR TokR.mv
      rw [hm, hp 0 (Nat.zero_le _), hp _ (moreN_le _), hx 0 _ (Nat.zero_le _) (moreN_le _)]
    · rw [if_neg c1] at hok
      rw [if_neg c1, if_neg c1]
      by_cases c2 : classOf c = 2
      · rw [if_pos c2, if_pos c2]
        unfold numR TokR.mv
        rw [hd, hp 0 (Nat.zero_le _), hc]
      · rw [if_neg c2] at hok
        rw [if_neg c2, if_neg c2]
        by_cases c4 : classOf c = 4
        · rw [if_pos c4] at hok
          rw [if_pos c4, if_pos c4]
          unfold signR at hok ⊢
          rw [hs]
          cases hsg : signOf r0 with
          | none => rw [hsg] at hok; cases hok
          | some sg =>
            unfold TokR.mv
            show TokR.mk _ _ _ _ _ _ = TokR.mk _ _ _ _ _ _
            rw [hp 0 (Nat.zero_le _)]
        · rw [if_neg c4] at hok
          cases hok
/-- What is left, moved, with what follows; nothing where nothing is left. -/
def nxt (d : Nat) (T r : List (Nat × Nat)) : List (Nat × Nat) := if r = [] then [] else mvL d r ++ T
theorem mvL_nil (d : Nat) (r : List (Nat × Nat)) : mvL d r = [] ↔ r = [] := by unfold mvL; simp
theorem nxt_blank (d : Nat) {T : List (Nat × Nat)} (hT : BlankT T) (r : List (Nat × Nat)) : (mvL d r ++ T).drop (blankGo false (mvL d r ++ T)) = nxt d T (r.drop (blankGo false r)) := by
  rw [blank_app hT, blank_mv, ← mvL_drop, nxt]
  simp only [mvL_nil]
theorem lexH_app {s t : ByteArray} {fin fin' d : Nat} {T : List (Nat × Nat)} (hT : BlankT ((10, fin + d) :: T)) (L : List (Nat × Nat)) (hx : ∀ n m, t.extract (placeIn fin L n + d) (placeIn fin L m + d) = s.extract (placeIn fin L n) (placeIn fin L m)) :
    ∀ (f k f' : Nat) (l : List TokR) (p : Nat), (L.drop k).length < f → (L.drop k).length < f' → lexH s fin f (L.drop k) = (some l, p) → ∃ p', lexH t fin' f' (nxt d ((10, fin + d) :: T) (L.drop k)) = (some (l.map (TokR.mv d)), p') := by
  intro f
  induction f with
  | zero => intro k f' l p h; omega
  | succ f ih =>
    intro k f' l p h1 h2 h
    obtain ⟨f', rfl⟩ : ∃ g, f' = g + 1 := ⟨f' - 1, by omega⟩
    by_cases hr : L.drop k = []
    · rw [hr] at h ⊢
      rw [lexH] at h
      injection h with h _
      injection h with h
      subst h
      exact ⟨0, by rw [nxt, if_pos rfl, lexH]; rfl⟩
    · have hc := comb_nil (lexH s fin (f + 1) (L.drop k))
      have hpos : 0 < (L.drop k).length := List.length_pos_iff.2 hr
      by_cases hok : (tokR s fin (L.drop k)).ok = true
      · have e1 := comb_ok s fin f (L.drop k) [] hpos hok
        rw [hc, h] at e1
        have hxx : ∀ n m, n ≤ (L.drop k).length → m ≤ (L.drop k).length → t.extract (placeIn fin (L.drop k) n + d) (placeIn fin (L.drop k) m + d) = s.extract (placeIn fin (L.drop k) n) (placeIn fin (L.drop k) m) := fun n m _ _ => by
          rw [placeIn_drop, placeIn_drop]; exact hx _ _
        have ht := tok_app (T := T) (fin' := fin') hr hok hxx
        have hp1 := tokR_pos _ _ _ hok
        have hl1 := tok_len_le s fin (L.drop k)
        rw [nxt, if_neg hr]
        have hok' : (tokR t fin' (mvL d (L.drop k) ++ (10, fin + d) :: T)).ok = true := by rw [ht]; exact hok
        have e2 := comb_ok t fin' f' (mvL d (L.drop k) ++ (10, fin + d) :: T) [] (by simp; omega) hok'
        rw [comb_nil, ht] at e2
        have hdr : (mvL d (L.drop k) ++ (10, fin + d) :: T).drop ((tokR s fin (L.drop k)).mv d).len = mvL d ((L.drop k).drop (tokR s fin (L.drop k)).len) ++ (10, fin + d) :: T := by
          show (mvL d (L.drop k) ++ (10, fin + d) :: T).drop (tokR s fin (L.drop k)).len = _
          rw [List.drop_append_of_le_length (by rw [mvL_len]; exact hl1), ← mvL_drop]
        rw [hdr, nxt_blank d hT] at e2
        generalize tokR s fin (L.drop k) = tk at *
        have hdd : ((L.drop k).drop tk.len).drop (blankGo false ((L.drop k).drop tk.len)) = L.drop (k + tk.len + blankGo false ((L.drop k).drop tk.len)) := by
          simp only [List.drop_drop, Nat.add_assoc]
        rw [hdd] at e1 e2
        generalize hk' : k + tk.len + blankGo false ((L.drop k).drop tk.len) = k' at e1 e2
        generalize hy : lexH s fin f (L.drop k') = y at e1
        obtain ⟨y1, y2⟩ := y
        cases y1 with
        | none => cases e1
        | some l1 =>
          obtain ⟨p', e3⟩ := ih k' f' l1 y2 (by simp only [List.length_drop] at *; omega) (by simp only [List.length_drop] at *; omega) hy
          rw [e3] at e2
          refine ⟨p', ?_⟩
          rw [e2]
          simp only [comb, List.nil_append, Option.map_some, List.singleton_append] at e1 ⊢
          injection e1 with e1 _
          injection e1 with e1
          rw [e1]
          rfl
      · have hok : (tokR s fin (L.drop k)).ok = false := by simpa using hok
        have e1 := comb_bad s fin f (L.drop k) [] hpos hok
        rw [hc, h] at e1
        cases e1
theorem tokR_at_le {s : ByteArray} {fin B : Nat} {r : List (Nat × Nat)} (h : placeIn fin r 0 ≤ B) : (tokR s fin r).at' ≤ B := by
  cases r with
  | nil => exact Nat.zero_le _
  | cons x r =>
    obtain ⟨c, p⟩ := x
    have hv : tokR s fin ((c, p) :: r) = if classOf c = 1 then nameR s fin ((c, p) :: r) else if classOf c = 2 then numR fin c ((c, p) :: r) else if classOf c = 4 then signR fin ((c, p) :: r) else noTok := rfl
    rw [hv]
    by_cases c1 : classOf c = 1
    · rw [if_pos c1]; exact h
    · rw [if_neg c1]
      by_cases c2 : classOf c = 2
      · rw [if_pos c2]; exact h
      · rw [if_neg c2]
        by_cases c4 : classOf c = 4
        · rw [if_pos c4]
          unfold signR
          cases hs : signOf ((c, p) :: r) with
          | none => exact Nat.zero_le _
          | some sg => exact h
        · rw [if_neg c4]; exact Nat.zero_le _
theorem lexH_at {s : ByteArray} {fin B : Nat} {L : List (Nat × Nat)} (hB : ∀ n, placeIn fin L n ≤ B) : ∀ (f k : Nat) (l : List TokR) (p : Nat), lexH s fin f (L.drop k) = (some l, p) → ∀ t ∈ l, t.at' ≤ B := by
  intro f
  induction f with
  | zero =>
    intro k l p h
    rw [lexH] at h
    injection h with h _
    injection h with h
    subst h
    intro t ht; cases ht
  | succ f ih =>
    intro k l p h
    by_cases hr : L.drop k = []
    · rw [hr, lexH] at h
      injection h with h _
      injection h with h
      subst h
      intro t ht; cases ht
    · have hc := comb_nil (lexH s fin (f + 1) (L.drop k))
      have hpos : 0 < (L.drop k).length := List.length_pos_iff.2 hr
      by_cases hok : (tokR s fin (L.drop k)).ok = true
      · have e1 := comb_ok s fin f (L.drop k) [] hpos hok
        rw [hc, h] at e1
        have hle : (tokR s fin (L.drop k)).at' ≤ B := tokR_at_le (by rw [placeIn_drop]; exact hB _)
        generalize tokR s fin (L.drop k) = tk at *
        have hdd : ((L.drop k).drop tk.len).drop (blankGo false ((L.drop k).drop tk.len)) = L.drop (k + tk.len + blankGo false ((L.drop k).drop tk.len)) := by
          simp only [List.drop_drop, Nat.add_assoc]
        rw [hdd] at e1
        generalize k + tk.len + blankGo false ((L.drop k).drop tk.len) = k' at e1
        generalize hy : lexH s fin f (L.drop k') = y at e1
        obtain ⟨y1, y2⟩ := y
        cases y1 with
        | none => cases e1
        | some l1 =>
          have h3 := ih k' l1 y2 hy
          simp only [comb, List.nil_append, Option.map_some, List.singleton_append] at e1
          injection e1 with e1 _
          injection e1 with e1
          subst e1
          intro t ht
          rcases List.mem_cons.1 ht with ht | ht
          · rw [ht]; exact hle
          · exact h3 t ht
      · have hok : (tokR s fin (L.drop k)).ok = false := by simpa using hok
        have e1 := comb_bad s fin f (L.drop k) [] hpos hok
        rw [hc, h] at e1
        cases e1
theorem extract_out (a : ByteArray) (i j : Nat) (h : a.size ≤ i ∨ j = 0) : a.extract i j = ByteArray.empty := by
  apply ByteArray.ext
  rw [ByteArray.data_extract]
  apply Array.eq_empty_of_size_eq_zero
  rw [Array.size_extract]
  have : a.data.size = a.size := rfl
  omega
theorem extract_mid (g s R : ByteArray) (p q : Nat) (hq : q ≤ s.size) : (g ++ s ++ R).extract (p + g.size) (q + g.size) = s.extract p q := by
  have hs : (g ++ s).size = g.size + s.size := ByteArray.size_append
  rw [ByteArray.extract_append, ByteArray.extract_append, extract_out R _ _ (.inr (by omega)), extract_out g _ _ (.inl (by omega)), Nat.add_sub_cancel, Nat.add_sub_cancel]
  simp
def nlB : ByteArray := ⟨#[10]⟩
theorem each_nl : each nlB = ([(10, 0)], none) := by decide +kernel
/-- A text of blanks. -/
structure Gap (g : ByteArray) : Prop where
  none : (each g).2 = none
  blank : ∀ r, blankGo false ((each g).1 ++ r) = (each g).1.length + blankGo false r
theorem mvL_mv (a b : Nat) (r : List (Nat × Nat)) : mvL a (mvL b r) = mvL (b + a) r := by
  unfold mvL
  rw [List.map_map]
  congr 1
  funext x
  simp [Nat.add_assoc]
theorem tokens_gap {g s : ByteArray} (hg : Gap g) (hsz : s.size + 2 * g.size + 1 ≤ 2000) (h : (tokens s).2.2 = 0) :
    ∃ l, tokens s = (l ++ [endTok s], s.size, 0) ∧ (∀ t ∈ l, t.at' ≤ s.size) ∧ tokens (g ++ s ++ (nlB ++ g)) = (l.map (TokR.mv g.size) ++ [endTok (g ++ s ++ (nlB ++ g))], s.size + 2 * g.size + 1, 0) := by
  have h2 : ¬ 2000 < s.size := by omega
  generalize hx : lexH s (finOf s (each s).2) ((each s).1.length + 1) ((each s).1.drop (blankGo false (each s).1)) = x
  obtain ⟨x1, x2⟩ := x
  cases x1 with
  | none => rw [tok_bad h2 hx] at h; exact absurd (show (2 : Int) = 0 from h) (by decide)
  | some l =>
    cases hb : (each s).2 with
    | some q => rw [tok_odd h2 hx hb] at h; exact absurd (show (2 : Int) = 0 from h) (by decide)
    | none =>
      refine ⟨l, tok_end h2 hx hb, lexH_at (fun n => (placeAt_mono s n n (Nat.le_refl _)).2) _ _ _ _ hx, ?_⟩
      have hsz1 : (g ++ s).size = g.size + s.size := ByteArray.size_append
      have hsz2 : (nlB ++ g).size = 1 + g.size := ByteArray.size_append
      have hsz3 : (g ++ s ++ (nlB ++ g)).size = s.size + 2 * g.size + 1 := by rw [ByteArray.size_append, hsz1, hsz2]; omega
      have e1 : each (g ++ s) = ((each g).1 ++ mvL g.size (each s).1, none) := by rw [each_app g s hg.none, hb]; rfl
      have e2 : each (nlB ++ g) = ((10, 0) :: mvL 1 (each g).1, none) := by
        rw [each_app nlB g (by rw [each_nl]), hg.none, each_nl]; rfl
      have e3 : each (g ++ s ++ (nlB ++ g)) = ((each g).1 ++ (mvL g.size (each s).1 ++ (10, s.size + g.size) :: mvL (s.size + g.size) (mvL 1 (each g).1)), none) := by
        rw [each_app (g ++ s) (nlB ++ g) (by rw [e1]), e1, e2, hsz1, Nat.add_comm g.size]
        show ((each g).1 ++ mvL g.size (each s).1 ++ (10, 0 + (s.size + g.size)) :: mvL (s.size + g.size) (mvL 1 (each g).1), none) = _
        rw [Nat.zero_add, List.append_assoc]
      have hT : BlankT ((10, s.size + g.size) :: mvL (s.size + g.size) (mvL 1 (each g).1)) := by
        have hb0 := hg.blank []
        rw [List.append_nil] at hb0
        have hb1 : blankGo false (mvL (s.size + g.size) (mvL 1 (each g).1)) = (mvL (s.size + g.size) (mvL 1 (each g).1)).length := by
          rw [blank_mv, blank_mv, hb0, mvL_len, mvL_len]; rfl
        intro b
        cases b with
        | true => rw [blankGo, if_pos rfl, hb1]; rfl
        | false => rw [blankGo, if_pos (by decide), hb1]; rfl
      have hfin : finOf s (each s).2 = s.size := by rw [hb]; rfl
      rw [hfin] at hx
      have hpl : ∀ n m, (g ++ s ++ (nlB ++ g)).extract (placeIn s.size (each s).1 n + g.size) (placeIn s.size (each s).1 m + g.size) = s.extract (placeIn s.size (each s).1 n) (placeIn s.size (each s).1 m) := fun n m => by
        refine extract_mid g s (nlB ++ g) _ _ ?_
        have := (placeAt_mono s m m (Nat.le_refl _)).2
        unfold placeAt at this
        rw [hfin] at this
        exact this
      have hlen : ((each s).1.drop (blankGo false (each s).1)).length ≤ (each s).1.length := by rw [List.length_drop]; omega
      obtain ⟨p', hy⟩ := lexH_app (t := g ++ s ++ (nlB ++ g)) (fin' := (g ++ s ++ (nlB ++ g)).size) hT (each s).1 hpl ((each s).1.length + 1) (blankGo false (each s).1) ((each (g ++ s ++ (nlB ++ g))).1.length + 1) l x2 (by omega) (by rw [e3]; simp only [List.length_append, mvL_len]; omega) hx
      have hdrop : (each (g ++ s ++ (nlB ++ g))).1.drop (blankGo false (each (g ++ s ++ (nlB ++ g))).1) = nxt g.size ((10, s.size + g.size) :: mvL (s.size + g.size) (mvL 1 (each g).1)) ((each s).1.drop (blankGo false (each s).1)) := by
        rw [e3]
        show ((each g).1 ++ _).drop (blankGo false ((each g).1 ++ _)) = _
        rw [hg.blank, ← List.drop_drop, List.drop_left, nxt_blank g.size hT]
      have hn : (each (g ++ s ++ (nlB ++ g))).2 = none := by rw [e3]
      rw [tok_end (by omega) (by rw [hdrop, hn]; exact hy) hn, hsz3]
theorem bytesOf_app (a b : List Nat) : bytesOf (a ++ b) = bytesOf a ++ bytesOf b := by
  apply ByteArray.ext
  rw [ByteArray.data_append]
  unfold bytesOf
  simp
theorem gap0 : Gap (bytesOf [32]) := ⟨by decide +kernel, fun r => by
  rw [show (each (bytesOf [32])).1 = [(32, 0)] by decide +kernel]
  simp [blankGo, spaceB]; omega⟩
theorem gap1 : Gap (bytesOf [9, 10]) := ⟨by decide +kernel, fun r => by
  rw [show (each (bytesOf [9, 10])).1 = [(9, 0), (10, 1)] by decide +kernel]
  simp [blankGo, spaceB]; omega⟩
theorem gap2 : Gap (bytesOf [35, 32, 120, 32, 60, 32, 51, 32, 206, 177, 10]) := ⟨by decide +kernel, fun r => by
  rw [show (each (bytesOf [35, 32, 120, 32, 60, 32, 51, 32, 206, 177, 10])).1 = [(35, 0), (32, 1), (120, 2), (32, 3), (60, 4), (32, 5), (51, 6), (32, 7), (945, 8), (10, 10)] by decide +kernel]
  simp [blankGo, spaceB]; omega⟩
theorem gap3 : Gap (bytesOf [13, 35, 32, 10]) := ⟨by decide +kernel, fun r => by
  rw [show (each (bytesOf [13, 35, 32, 10])).1 = [(13, 0), (35, 1), (32, 2), (10, 3)] by decide +kernel]
  simp [blankGo, spaceB]; omega⟩
/-- The same for texts as rows of numbers. -/
theorem tokens_gapL {gl l : List Nat} (hg : Gap (bytesOf gl)) (hsz : l.length + 2 * gl.length + 1 ≤ 2000) (h : (tokens (bytesOf l)).2.2 = 0) :
    ∃ ts, (tokens (bytesOf l)).1 = ts ++ [endTok (bytesOf l)] ∧ (∀ t ∈ ts, t.at' ≤ l.length) ∧ ∃ e, (tokens (bytesOf (((gl ++ l) ++ [10]) ++ gl))).1 = ts.map (TokR.mv gl.length) ++ [e] ∧ (tokens (bytesOf (((gl ++ l) ++ [10]) ++ gl))).2.1 = l.length + 2 * gl.length + 1 ∧ (tokens (bytesOf (((gl ++ l) ++ [10]) ++ gl))).2.2 = 0 := by
  obtain ⟨ts, h1, h0, h2⟩ := tokens_gap hg (by rw [size_bytesOf, size_bytesOf]; exact hsz) h
  have e : bytesOf (((gl ++ l) ++ [10]) ++ gl) = bytesOf gl ++ bytesOf l ++ (nlB ++ bytesOf gl) := by
    rw [List.append_assoc (gl ++ l), bytesOf_app, bytesOf_app, bytesOf_app]; rfl
  rw [e, h1, h2, size_bytesOf, size_bytesOf]
  exact ⟨ts, rfl, fun t ht => by have := h0 t ht; rw [size_bytesOf] at this; exact this, _, rfl, rfl, rfl⟩
end Go.Proofs.YtcccnnfmhdogoaaDoor
