/-
  What the reader of 'sibylref2' takes for the next token is what 'lex' takes for it. No program here.
-/
import Derived.Test.YtmjnbdkjekdkgaaDoorFbRrS
namespace Go.Proofs.YtmjnbdkjekdkgaaDoor
open Go Go.RowKit
set_option linter.unusedVariables false

set_option maxRecDepth 100000 in
set_option maxHeartbeats 4000000 in
/-- A rune is read from its own bytes alone. -/
theorem decN_cut (n m b0 b1 b2 b3 c1 c2 c3 : Nat) (hmn : m ≤ n) (hw : (Lib.decodeN n b0 b1 b2 b3).2 ≤ m) (h1 : 1 < m → c1 = b1) (h2 : 2 < m → c2 = b2) (h3 : 3 < m → c3 = b3) : Lib.decodeN m b0 c1 c2 c3 = Lib.decodeN n b0 b1 b2 b3 := by
 unfold Lib.decodeN at hw ⊢
 by_cases a0 : b0 < 128
 ·rw [if_pos a0, if_pos a0]
 rw [if_neg a0] at hw
 rw [if_neg a0, if_neg a0]
 by_cases a1 : b0 / 32 = 6 ∧ (1 < n ∧ b1 / 64 = 2)
 ·rw [if_pos a1] at hw
  rw [if_pos a1]
  by_cases hm : 1 < m
  ·rw [h1 hm, if_pos ⟨a1.1, hm, a1.2.2⟩]
  ·rw [if_neg (fun h => hm h.2.1), if_neg (by omega), if_neg (by omega)]
   split at hw
   ·exfalso; simp only at hw; omega
   ·rename_i h; rw [if_neg h]
 rw [if_neg a1] at hw
 rw [if_neg a1]
 by_cases a2 : b0 / 16 = 14 ∧ (1 < n ∧ b1 / 64 = 2) ∧ (2 < n ∧ b2 / 64 = 2)
 ·rw [if_pos a2] at hw
  rw [if_pos a2, if_neg (by omega)]
  by_cases hm : 2 < m
  ·rw [h1 (by omega), h2 hm, if_pos ⟨a2.1, ⟨by omega, a2.2.1.2⟩, hm, a2.2.2.2⟩]
  ·rw [if_neg (fun h => hm h.2.2.1), if_neg (by omega)]
   split at hw
   ·exfalso; simp only at hw; omega
   ·rename_i h; rw [if_neg h]
 rw [if_neg a2] at hw
 rw [if_neg a2]
 by_cases a3 : b0 / 8 = 30 ∧ (1 < n ∧ b1 / 64 = 2) ∧ (2 < n ∧ b2 / 64 = 2) ∧ (3 < n ∧ b3 / 64 = 2)
 ·rw [if_pos a3] at hw
  rw [if_pos a3, if_neg (by omega), if_neg (by omega)]
  by_cases hm : 3 < m
  ·rw [h1 (by omega), h2 (by omega), h3 hm, if_pos ⟨a3.1, ⟨by omega, a3.2.1.2⟩, ⟨by omega, a3.2.2.1.2⟩, hm, a3.2.2.2.2⟩]
  ·rw [if_neg (fun h => hm h.2.2.2.1)]
   split at hw
   ·exfalso; simp only at hw; omega
   ·rename_i h; rw [if_neg h]
 rw [if_neg a3]
 rw [if_neg, if_neg, if_neg]
 ·intro h
  exact a3 ⟨h.1, ⟨by omega, by rw [← h1 h.2.1.1]; exact h.2.1.2⟩, ⟨by omega, by rw [← h2 h.2.2.1.1]; exact h.2.2.1.2⟩, by omega, by rw [← h3 h.2.2.2.1]; exact h.2.2.2.2⟩
 ·intro h
  exact a2 ⟨h.1, ⟨by omega, by rw [← h1 h.2.1.1]; exact h.2.1.2⟩, by omega, by rw [← h2 h.2.2.1]; exact h.2.2.2⟩
 ·intro h
  exact a1 ⟨h.1, by omega, by rw [← h1 h.2.1]; exact h.2.2⟩
theorem get_seg (s : ByteArray) (a b k : Nat) (h : a + k < b) (hb : b ≤ s.size) : (s.extract a b).get! k = s.get! (a + k) := by
 have hz : (s.extract a b).size = b - a := by simp; omega
 rw [get_eq _ _ (by omega), get_eq _ _ (by omega)]
 simp [ByteArray.data_extract]
theorem decode_seg (s : ByteArray) (a b p : Nat) (h1 : a ≤ p) (h2 : p < b) (h3 : b ≤ s.size) (hw : p + (Utf8.decode s p).2 ≤ b) : Utf8.decode (s.extract a b) (p - a) = Utf8.decode s p := by
 have hz : (s.extract a b).size = b - a := by simp; omega
 have hw' := hw
 rw [Lib.decode_at] at hw' ⊢
 rw [Lib.decode_at s p, hz]
 have e0 : (s.extract a b).get! (p - a) = s.get! p := by rw [get_seg s a b _ (by omega) h3]; congr 1; omega
 rw [e0]
 refine decN_cut _ _ _ _ _ _ _ _ _ (by omega) (by omega) (fun h => ?_) (fun h => ?_) (fun h => ?_)
 ·rw [get_seg s a b _ (by omega) h3]; congr 2; omega
 ·rw [get_seg s a b _ (by omega) h3]; congr 2; omega
 ·rw [get_seg s a b _ (by omega) h3]; congr 2; omega
theorem count_seg (s : ByteArray) (fin a b : Nat) (hb : b ≤ s.size) : ∀ (R : List (Nat × Nat)) (p m f : Nat), Chain s fin p R → m ≤ R.length → a ≤ p → placeIn fin R m = b → m ≤ f → countGo (s.extract a b) f (p - a) = m := by
 have hz : (s.extract a b).size = b - a := by simp; omega
 intro R
 induction R with
 | nil =>
  intro p m f hc hm hap hpb hf
  obtain rfl : m = 0 := by simpa using hm
  have hp : p = fin := hc
  have hpb : fin = b := hpb
  rw [countGo_end _ _ _ (by omega)]
 | cons x R ih =>
  intro p m f hc hm hap hpb hf
  obtain ⟨c, q⟩ := x
  cases m with
  | zero =>
   have hpb : q = b := hpb
   have := hc.1
   rw [countGo_end _ _ _ (by omega)]
  | succ m =>
   obtain ⟨hq, hlt, _, _, hc'⟩ := hc
   have hpb' : placeIn fin R m = b := by rw [← hpb]; simp [placeIn]
   have hm' : m ≤ R.length := by simpa using hm
   have hpl := (place_mono s fin _ R hc' 0 m (Nat.zero_le _)).1
   rw [placeIn_zero s fin _ R hc', hpb'] at hpl
   have hw := dec_width s p hlt
   obtain ⟨f, rfl⟩ : ∃ f', f = f' + 1 := ⟨f - 1, by omega⟩
   rw [countGo_step _ _ _ (by omega), decode_seg s a b p hap (by omega) hb hpl]
   have := ih (p + (Utf8.decode s p).2) m f hc' hm' (by omega) hpb' (by omega)
   rw [show p - a + (Utf8.decode s p).2 = p + (Utf8.decode s p).2 - a by omega, this]
theorem count_name (s : ByteArray) (n m : Nat) (h : n + m ≤ (each s).1.length) : count (s.extract (placeAt s (each s).2 (each s).1 n) (placeAt s (each s).2 (each s).1 (n + m))) = m := by
 have hc := each_chain s
 have hd := chain_drop s _ n _ 0 hc.1
 have h1 := placeAt_mono s n (n + m) (by omega)
 have hz : (s.extract (placeAt s (each s).2 (each s).1 n) (placeAt s (each s).2 (each s).1 (n + m))).size = placeAt s (each s).2 (each s).1 (n + m) - placeAt s (each s).2 (each s).1 n := by simp; omega
 have hge : m ≤ placeAt s (each s).2 (each s).1 (n + m) - placeAt s (each s).2 (each s).1 n := by
  clear hz h1
  induction m with
  | zero => omega
  | succ m ih =>
   have := ih (by omega)
   have hm := placeAt_mono s n (n + m) (by omega)
   have hlt : placeAt s (each s).2 (each s).1 (n + m) < placeAt s (each s).2 (each s).1 (n + (m + 1)) := by
    have hdd := chain_drop s _ (n + m) _ 0 hc.1
    have hl : n + m < (each s).1.length := by omega
    rw [drop_at _ _ hl] at hdd
    obtain ⟨_, hlt, _, _, hc'⟩ := hdd
    have e1 := placeIn_zero s _ _ _ hc'
    rw [placeIn_drop, Nat.add_zero] at e1
    have hw := dec_width s _ hlt
    show placeIn _ _ (n + m) < placeIn _ _ (n + m + 1)
    omega
   omega
 unfold count
 rw [hz]
 have := count_seg s (finOf s (each s).2) (placeAt s (each s).2 (each s).1 n) (placeAt s (each s).2 (each s).1 (n + m)) h1.2 ((each s).1.drop n) _ m (placeAt s (each s).2 (each s).1 (n + m) - placeAt s (each s).2 (each s).1 n) hd (by rw [List.length_drop]; omega) (Nat.le_refl _) (placeIn_drop _ _ _ _) hge
 rw [show placeIn (finOf s (each s).2) (each s).1 n - placeAt s (each s).2 (each s).1 n = 0 from Nat.sub_self _] at this
 exact this
theorem num_cap : ∀ (r : List (Nat × Nat)) (a : Nat), numCap 100 (min a 100) r = min (numCap 1000 a r) 100 := by
 intro r
 induction r with
 | nil => intro a; rfl
 | cons x r ih =>
  intro a
  obtain ⟨c, q⟩ := x
  rw [numCap, numCap]
  split
  ·rw [← ih]
   congr 1
   omega
  ·rfl
theorem sign_class : ∀ sg ∈ signsB, ∀ b r, sg.data.toList = b :: r → classOf (b.toNat : Int) = 4 := by
 have h : ∀ sg ∈ signsB, (match sg.data.toList with | b :: r => decide (classOf (b.toNat : Int) = 4) | [] => true) = true := by decide +kernel
 intro sg hs b r e
 have := h sg hs
 rw [e] at this
 exact of_decide_eq_true this
theorem sign_none {c a : Nat} {r : List (Nat × Nat)} (h : classOf (c : Int) ≠ 4) : signOf ((c, a) :: r) = none := by
 unfold signOf
 rw [List.find?_eq_none]
 intro sg hs hf
 have hz := (signs_size sg hs).1
 cases he : sg.data.toList with
 | nil =>
  have : sg.size = 0 := by rw [← ByteArray.size_data, ← Array.length_toList, he]; rfl
  omega
 | cons b l =>
  rw [he, fitsR, Bool.and_eq_true, decide_eq_true_iff] at hf
  exact h (by rw [hf.1]; exact sign_class sg hs b l he)

theorem Bytes.sub {l r : List Nat} (h : Bytes l) (hs : ∀ x ∈ r, x ∈ l) : Bytes r := fun x hx => h x (hs x hx)
theorem text_part {l : List Nat} (h : Bytes l) (a b : Nat) : textOf ((bytesOf l).extract a b) = (l.drop a).take (b - a) := by
 rw [bytesOf_extract, textOf_bytesOf (h.sub fun x hx => List.mem_of_mem_drop (List.mem_of_mem_take hx))]
theorem tok_eq {l : List Nat} (hB : Bytes l) {n : Nat} (hn : n < (each (bytesOf l)).1.length) :
  (rtok l (each (bytesOf l)).2 (each (bytesOf l)).1 n).2.1 = (tokR (bytesOf l) (finOf (bytesOf l) (each (bytesOf l)).2) ((each (bytesOf l)).1.drop n)).ok ∧
  ((tokR (bytesOf l) (finOf (bytesOf l) (each (bytesOf l)).2) ((each (bytesOf l)).1.drop n)).ok = true → (rtok l (each (bytesOf l)).2 (each (bytesOf l)).1 n).1 = (tokR (bytesOf l) (finOf (bytesOf l) (each (bytesOf l)).2) ((each (bytesOf l)).1.drop n)).cells ∧
   (rtok l (each (bytesOf l)).2 (each (bytesOf l)).1 n).2.2 = (tokR (bytesOf l) (finOf (bytesOf l) (each (bytesOf l)).2) ((each (bytesOf l)).1.drop n)).len) := by
 obtain ⟨c, q, h1, h2⟩ := rune_at hn
 have hcl : classAt (each (bytesOf l)).1 n = classOf (c : Int) := classAt_at h1
 have hml := moreN_le ((each (bytesOf l)).1.drop n)
 rw [List.length_drop] at hml
 have hcn := count_name (bytesOf l) n (moreN ((each (bytesOf l)).1.drop n)) (by omega)
 have hp0 : placeIn (finOf (bytesOf l) (each (bytesOf l)).2) ((each (bytesOf l)).1.drop n) 0 = placeIn (finOf (bytesOf l) (each (bytesOf l)).2) (each (bytesOf l)).1 n := by rw [placeIn_drop, Nat.add_zero]
 have hpm : ∀ m, placeIn (finOf (bytesOf l) (each (bytesOf l)).2) ((each (bytesOf l)).1.drop n) m = placeIn (finOf (bytesOf l) (each (bytesOf l)).2) (each (bytesOf l)).1 (n + m) := fun m => placeIn_drop _ _ _ _
 have hcn' : count ((bytesOf l).extract (placeIn (finOf (bytesOf l) (each (bytesOf l)).2) (each (bytesOf l)).1 n) (placeIn (finOf (bytesOf l) (each (bytesOf l)).2) (each (bytesOf l)).1 (n + moreN ((each (bytesOf l)).1.drop n)))) = moreN ((each (bytesOf l)).1.drop n) := hcn
 have hisC : isC (each (bytesOf l)).1 n 48 = decide ((c : Int) = 48) := isC_at h1
 rw [tokR_at _ _ _ _ hn]
 have hgn : (each (bytesOf l)).1[n] = (c, q) := by
  obtain ⟨_, h⟩ := List.getElem?_eq_some_iff.1 h1
  exact h
 rw [hgn]
 simp only
 unfold rtok rname rnum rsign
 rw [hcl]
 have hc0 := num_cap ((each (bytesOf l)).1.drop n) 0
 rw [show min 0 100 = 0 from rfl] at hc0
 have hsg := signN_eq ((each (bytesOf l)).1.drop n)
 generalize (each (bytesOf l)).1.drop n = r at *
 by_cases k1 : classOf (c : Int) = 1
 ·rw [if_pos k1, if_pos k1]
  unfold nameR
  rw [hp0, hpm, hcn', words_has, text_part hB]
  refine ⟨?_, fun _ => ⟨?_, rfl⟩⟩
  ·simp only
   rw [Bool.eq_iff_iff, decide_eq_true_iff, decide_eq_true_iff]
   omega
  ·unfold TokR.cells
   simp only [text_part hB]
   rfl
 ·rw [if_neg k1, if_neg k1]
  by_cases k2 : classOf (c : Int) = 2
  ·rw [if_pos k2, if_pos k2]
   unfold numR
   rw [hp0, hc0, hisC]
   refine ⟨?_, fun hok => ⟨?_, rfl⟩⟩
   ·simp only
    have e1 : decide (((numCap 1000 0 r : Nat) : Int) ≤ 99) = decide (min (numCap 1000 0 r) 100 ≤ 99) := by
     rw [Bool.eq_iff_iff, decide_eq_true_iff, decide_eq_true_iff]; omega
    have hd1 : 1 ≤ digN r := by rw [h2, digN, if_pos (classOf_two.1 k2)]; omega
    have e2 : (!(decide ((c : Int) = 48) && decide (1 < ((digN r : Nat) : Int)))) = (decide (c ≠ 48) || decide (digN r = 1)) := by
     rw [Bool.eq_iff_iff]
     simp only [Bool.not_eq_true', Bool.and_eq_false_iff, decide_eq_false_iff_not, Bool.or_eq_true, decide_eq_true_iff]
     omega
    rw [e1, e2]
   ·have hok : (decide (min (numCap 1000 0 r) 100 ≤ 99) && _) = true := hok
    rw [Bool.and_eq_true, decide_eq_true_iff] at hok
    unfold TokR.cells
    have e3 : min (numCap 1000 0 r) 100 = numCap 1000 0 r := by omega
    simp only [e3]
    rfl
  ·rw [if_neg k2, if_neg k2]
   rw [hsg]
   by_cases k4 : classOf (c : Int) = 4
   ·rw [if_pos k4]
    unfold signR
    cases hs : signOf r with
    | none => exact ⟨rfl, fun h => by cases h⟩
    | some sg =>
     refine ⟨rfl, fun _ => ⟨?_, ?_⟩⟩
     ·unfold TokR.cells
      simp only [Option.map_some, hp0]
      rfl
     ·simp only [Option.map_some]
      unfold textOf
      rw [List.length_map, Array.length_toList, ByteArray.size_data]
   ·rw [if_neg k4, h2, sign_none k4]
    exact ⟨rfl, fun h => by cases h⟩
end Go.Proofs.YtmjnbdkjekdkgaaDoor
