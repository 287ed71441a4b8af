/-
  The reader of 'sibylref2': its state in memory; plain laws of what it reads.
-/
import Derived.Test.YtmjnbdkjekdkgaaDoorFbSy2
import Derived.Test.YtmjnbdkjekdkgaaDoorFbLexU
import Derived.Test.YtmjnbdkjekdkgaaDoorFbLexG
namespace Go.Proofs.YtmjnbdkjekdkgaaDoor
open Go Go.RowKit
set_option linter.unusedVariables false

/-- Is rune n this one? -/
def isC (L : List (Nat × Nat)) (n : Nat) (c : Int) : Bool := match L[n]? with
  | some x => decide ((x.1 : Int) = c)
  | none => false
theorem isC_at {L : List (Nat × Nat)} {n : Nat} {x : Nat × Nat} {c : Int} (h : L[n]? = some x) : isC L n c = decide ((x.1 : Int) = c) := by simp [isC, h]
theorem isC_ge {L : List (Nat × Nat)} {n : Nat} {c : Int} (h : L.length ≤ n) : isC L n c = false := by simp [isC, List.getElem?_eq_none h]
theorem classAt_at {L : List (Nat × Nat)} {n : Nat} {x : Nat × Nat} (h : L[n]? = some x) : classAt L n = classOf x.1 := by simp [classAt, h]
theorem classAt_ge {L : List (Nat × Nat)} {n : Nat} (h : L.length ≤ n) : classAt L n = -1 := by simp [classAt, List.getElem?_eq_none h]
theorem placeIn_at {fin : Nat} {L : List (Nat × Nat)} {n : Nat} {x : Nat × Nat} (h : L[n]? = some x) : placeIn fin L n = x.2 := by simp [placeIn, h]
theorem placeIn_ge {fin : Nat} {L : List (Nat × Nat)} {n : Nat} (h : L.length ≤ n) : placeIn fin L n = fin := by simp [placeIn, List.getElem?_eq_none h]
theorem isC_lt {L : List (Nat × Nat)} {n : Nat} {c : Int} (h : isC L n c = true) : n < L.length := by
 refine Nat.lt_of_not_le fun hge => ?_
 rw [isC_ge hge] at h; cases h
theorem class_lt {L : List (Nat × Nat)} {n : Nat} (h : 0 ≤ classAt L n) : n < L.length := by
 refine Nat.lt_of_not_le fun hge => ?_
 rw [classAt_ge hge] at h; exact absurd h (by decide)
theorem rune_at {L : List (Nat × Nat)} {n : Nat} (h : n < L.length) : ∃ c a, L[n]? = some (c, a) ∧ L.drop n = (c, a) :: L.drop (n + 1) := ⟨_, _, List.getElem?_eq_getElem h, drop_at L n h⟩
/-- What is left of a comment, if it is one. -/
def cG (b : Bool) (r : List (Nat × Nat)) : Nat := if b then commentGo r else 0
theorem cG_stop {b : Bool} {L : List (Nat × Nat)} {j : Nat} (h : b = false ∨ ¬ j < L.length ∨ isC L j 10 = true) : cG b (L.drop j) = 0 := by
 rcases h with rfl | h | h
 ·rfl
 ·rw [List.drop_eq_nil_of_le (by omega)]; cases b <;> rfl
 ·obtain ⟨c, a, h1, h2⟩ := rune_at (isC_lt h)
  rw [isC_at h1] at h
  have h := of_decide_eq_true h
  have h : c = 10 := by simpa using Int.ofNat_inj.1 h
  rw [h2]
  cases b
  ·rfl
  ·show commentGo _ = 0
   rw [commentGo, if_pos h]
theorem cG_go {L : List (Nat × Nat)} {j : Nat} (h1 : j < L.length) (h2 : isC L j 10 = false) : cG true (L.drop j) = cG true (L.drop (j + 1)) + 1 := by
 obtain ⟨c, a, h3, h4⟩ := rune_at h1
 rw [isC_at h3] at h2
 have h := of_decide_eq_false h2
 rw [h4]
 show commentGo _ = _
 rw [commentGo, if_neg (fun e => h (by subst e; rfl))]
 rfl
theorem spaceB_of {c : Nat} (h : classOf (c : Int) = 3) : spaceB (c : Int) = true := classOf_space.1 h
theorem blank_step {L : List (Nat × Nat)} {k : Nat} (h : classAt L k = 3 ∨ isC L k 35 = true) : blankGo false (L.drop k) = 1 + cG (isC L k 35) (L.drop (k + 1)) + blankGo false (L.drop (k + 1 + cG (isC L k 35) (L.drop (k + 1)))) := by
 have hk : k < L.length := by
  rcases h with h | h
  ·exact class_lt (by omega)
  ·exact isC_lt h
 obtain ⟨c, a, h3, h4⟩ := rune_at hk
 rw [isC_at h3]
 rw [classAt_at h3, isC_at h3] at h
 rw [h4, blankGo]
 by_cases h35 : (c : Int) = 35
 ·have hc : c = 35 := by simpa using Int.ofNat_inj.1 h35
  subst hc
  have hd : decide ((((35, a) : Nat × Nat).1 : Int) = 35) = true := rfl
  rw [if_neg (by decide +kernel), if_pos rfl, blank_comment, hd, List.drop_drop]
  show commentGo _ + _ + 1 = 1 + commentGo _ + blankGo false (L.drop (k + 1 + commentGo (L.drop (k + 1))))
  omega
 ·have hd : decide ((((c, a) : Nat × Nat).1 : Int) = 35) = false := decide_eq_false h35
  rw [hd]
  rcases h with h | h
  ·have hs := spaceB_of h
   have e : (if spaceB c = true then blankGo false (L.drop (k + 1)) + 1 else if c = 35 then blankGo true (L.drop (k + 1)) + 1 else 0) = blankGo false (L.drop (k + 1)) + 1 := if_pos hs
   rw [e]
   show _ = 1 + 0 + blankGo false (L.drop (k + 1 + 0))
   rw [Nat.add_zero, Nat.add_zero, Nat.add_comm]
  ·rw [hd] at h; cases h
theorem blank_no {L : List (Nat × Nat)} {k : Nat} (h1 : classAt L k ≠ 3) (h2 : isC L k 35 = false) : blankGo false (L.drop k) = 0 := by
 by_cases hk : k < L.length
 ·obtain ⟨c, a, h3, h4⟩ := rune_at hk
  rw [classAt_at h3] at h1
  rw [isC_at h3] at h2
  have h2 := of_decide_eq_false h2
  rw [h4, blankGo]
  have hs : ¬ spaceB (c : Int) = true := fun h => h1 (classOf_space.2 h)
  have e : (if spaceB c = true then blankGo false (L.drop (k + 1)) + 1 else if c = 35 then blankGo true (L.drop (k + 1)) + 1 else 0) = if c = 35 then blankGo true (L.drop (k + 1)) + 1 else 0 := if_neg hs
  rw [e, if_neg fun e => h2 (by subst e; rfl)]
 ·rw [List.drop_eq_nil_of_le (by omega)]; rfl

theorem moreC_yes {L : List (Nat × Nat)} {j : Nat} (h : classAt L j = 1 ∨ classAt L j = 2 ∨ isC L j 39 = true) : j < L.length ∧ moreN (L.drop j) = moreN (L.drop (j + 1)) + 1 := by
 have hj : j < L.length := by
  rcases h with h | h | h
  ·exact class_lt (by omega)
  ·exact class_lt (by omega)
  ·exact isC_lt h
 refine ⟨hj, ?_⟩
 obtain ⟨c, a, h3, h4⟩ := rune_at hj
 rw [classAt_at h3, isC_at h3] at h
 rw [h4, moreN, if_pos]
 rcases h with h | h | h
 ·simp [moreB, classOf_one.1 h]
 ·simp [moreB, classOf_two.1 h]
 ·have := of_decide_eq_true h
  simp [moreB, this]
theorem moreC_no {L : List (Nat × Nat)} {j : Nat} (h1 : classAt L j ≠ 1) (h2 : classAt L j ≠ 2) (h3 : isC L j 39 = false) : moreN (L.drop j) = 0 := by
 by_cases hj : j < L.length
 ·obtain ⟨c, a, h4, h5⟩ := rune_at hj
  rw [classAt_at h4] at h1 h2
  rw [isC_at h4] at h3
  have h3 := of_decide_eq_false h3
  rw [h5, moreN, if_neg]
  intro hm
  unfold moreB at hm
  simp only [Bool.or_eq_true, decide_eq_true_iff] at hm
  rcases hm with (h | h) | h
  ·exact h1 (classOf_one.2 h)
  ·exact h2 (classOf_two.2 h)
  ·exact h3 h
 ·rw [List.drop_eq_nil_of_le (by omega)]
  rfl

/-- The reader lies in class g: its text, its runes, the byte that begins none, how many runes were read. -/
structure Rdr (h : Hp) (g : Nat) (l : List Nat) (ks : AV) (L : List (Nat × Nat)) (bad : Option Nat) (n : Nat) : Prop where
  row : Row1 h g 0 [.str l, ks, .int .i64 (badInt bad), .int .i64 ((n : Nat) : Int)]
  run : RdR h [g] 2 (L.map runeAV) ks
  few : L.length ≤ 100000
  le : n ≤ L.length
  size : l.length ≤ 100000
  mono : ∀ i j, i ≤ j → placeIn (finOf (bytesOf l) bad) L i ≤ placeIn (finOf (bytesOf l) bad) L j ∧ placeIn (finOf (bytesOf l) bad) L j ≤ l.length
theorem Rdr.next {h0 h : Hp} {g : Nat} {l : List Nat} {ks : AV} {L : List (Nat × Nat)} {bad : Option Nat} {n n' : Nat} (H : Rdr h0 g l ks L bad n) (hr : Row1 h g 0 [.str l, ks, .int .i64 (badInt bad), .int .i64 ((n' : Nat) : Int)]) (hk : RdR h [g] 2 (L.map runeAV) ks) (hn : n' ≤ L.length) : Rdr h g l ks L bad n' := ⟨hr, hk, H.few, hn, H.size, H.mono⟩
theorem bad_some {bad : Option Nat} (h : 0 ≤ badInt bad) : ∃ q, bad = some q := by
 cases bad with
 | none => exact absurd h (by decide)
 | some q => exact ⟨q, rfl⟩
theorem bad_none {bad : Option Nat} (h : ¬ 0 ≤ badInt bad) : bad = none := by
 cases bad with
 | none => rfl
 | some q => exact absurd (Int.natCast_nonneg q) h
theorem run_len {L : List (Nat × Nat)} : (L.map runeAV).length = L.length := by simp
theorem run_at {L : List (Nat × Nat)} {n : Nat} {c a : Nat} (h : L[n]? = some (c, a)) : (L.map runeAV)[n]? = some [.int .i32 (c : Int), .int .i64 (a : Int)] := by rw [List.getElem?_map, h]; rfl

/-! Words and signs. -/
def wordsN : List (List Nat) := [[116, 114, 117, 101], [102, 97, 108, 115, 101], [101, 120, 48], [101, 120, 49], [101, 120, 50], [97, 108, 108, 48], [97, 108, 108, 49], [97, 108, 108, 50], [118, 97, 114, 48], [118, 97, 114, 49], [118, 97, 114, 50], [112, 114, 101, 100], [105, 110], [110, 111, 116, 105, 110], [115, 117, 98], [117, 110, 105, 111, 110], [105, 110, 116, 101, 114]]
def signsN : List (List Nat) := [[60, 61, 62], [61, 62], [60, 61], [126, 61], [61], [126], [60], [38], [124], [40], [41], [123], [125], [44], [59], [58], [43], [92]]
theorem wordsN_eq : wordsL.map textOf = wordsN := by decide +kernel
theorem signsN_eq : signsB.map textOf = signsN := by decide +kernel
theorem textOf_inj {a b : ByteArray} (h : textOf a = textOf b) : a = b := by rw [← bytesOf_textOf a, h, bytesOf_textOf]
theorem words_has (s : ByteArray) : hasStr wordsL s = wordsN.contains (textOf s) := by
 rw [← wordsN_eq, Bool.eq_iff_iff, hasStr_iff, List.contains_iff_mem, List.mem_map]
 exact ⟨fun h => ⟨s, h, rfl⟩, fun ⟨a, h, e⟩ => textOf_inj e ▸ h⟩
def fitsN : List (Nat × Nat) → List Nat → Bool
 | _, [] => true
 | [], _ :: _ => false
 | (c, _) :: r, b :: l => decide (c = b) && fitsN r l
theorem fitsN_eq (l : List UInt8) : ∀ r, fitsN r (l.map UInt8.toNat) = fitsR r l := by
 induction l with
 | nil => intro r; cases r <;> rfl
 | cons b l ih =>
  intro r
  cases r with
  | nil => rfl
  | cons x r => obtain ⟨c, a⟩ := x; rw [List.map_cons, fitsN, fitsR, ih]
/-- The sign that stands next. -/
def signN (r : List (Nat × Nat)) : Option (List Nat) := signsN.find? fun w => fitsN r w
theorem signN_eq (r : List (Nat × Nat)) : signN r = (signOf r).map textOf := by
 unfold signN signOf
 rw [← signsN_eq, List.find?_map]
 congr 1
 congr 1
 funext sg
 exact fitsN_eq _ r
end Go.Proofs.YtmjnbdkjekdkgaaDoor
