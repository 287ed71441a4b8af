/-
  The lexer of 'lex': 'token'.
-/
import Derived.Test.YtmjnbdkjekdkgaaDoorFbLx1
namespace Go.Proofs.YtmjnbdkjekdkgaaDoor
open Go Go.RowKit
set_option linter.unusedVariables false
set_option maxRecDepth 10000
attribute [local go_sem] drewN_alloc drewN_setCell

/-- A token out of the runes that stand next: its kind, its text, its number, its place; may it be? how many runes it has. -/
structure TokR where
  kind : Int
  text : ByteArray
  num : Nat
  at' : Nat
  ok : Bool
  len : Nat
def noTok : TokR := ⟨0, ⟨#[]⟩, 0, 0, false, 0⟩
def nameR (s : ByteArray) (fin : Nat) (r : List (Nat × Nat)) : TokR :=
 ⟨if hasStr wordsL (s.extract (placeIn fin r 0) (placeIn fin r (moreN r))) then 3 else 1, s.extract (placeIn fin r 0) (placeIn fin r (moreN r)), 0, placeIn fin r 0,
  decide (count (s.extract (placeIn fin r 0) (placeIn fin r (moreN r))) ≤ 12), moreN r⟩
def numR (fin : Nat) (c : Nat) (r : List (Nat × Nat)) : TokR :=
 ⟨2, ⟨#[]⟩, numCap 100 0 r, placeIn fin r 0, decide (numCap 100 0 r ≤ 99) && (decide (c ≠ 48) || decide (digN r = 1)), digN r⟩
def signR (fin : Nat) (r : List (Nat × Nat)) : TokR := match signOf r with
 | some sg => ⟨3, sg, 0, placeIn fin r 0, true, sg.size⟩
 | none => noTok
def tokR (s : ByteArray) (fin : Nat) (r : List (Nat × Nat)) : TokR := match r with
 | [] => noTok
 | (c, _) :: _ => if classOf c = 1 then nameR s fin r else if classOf c = 2 then numR fin c r else if classOf c = 4 then signR fin r else noTok

def TokPost (w : World) (g : Nat) (s : ByteArray) (A : Option Addr) (cap : Nat) (L : List (Nat × Nat)) (bad : Option Nat) (n : Nat) (t : TokR) (e : Ending) (w' : World) : Prop :=
 e = .returned (.tuple #[.agg #[.int .i64 t.kind, .string t.text, .int .i64 t.num, .int .i64 t.at'], .bool t.ok]) ∧ w.grownBy w' (some g) ∧ LexAt w' g s A cap L bad (n + t.len)

theorem tok_fin {w W : World} {g : Nat} {s : ByteArray} {A : Option Addr} {cap : Nat} {L : List (Nat × Nat)} {bad : Option Nat} {n0 n : Nat} (H : LexAt w g s A cap L bad n0)
  (hgb : w.grownBy W (some g)) (hx : LexAt W g s A cap L bad n) (x0 x1 x2 x3 : Value) :
  w.grownBy ((((W.setCell ⟨w.heap.size, 0, none⟩ x0).setCell ⟨w.heap.size, 1, none⟩ x1).setCell ⟨w.heap.size, 2, none⟩ x2).setCell ⟨w.heap.size, 3, none⟩ x3) (some g) ∧
  LexAt ((((W.setCell ⟨w.heap.size, 0, none⟩ x0).setCell ⟨w.heap.size, 1, none⟩ x1).setCell ⟨w.heap.size, 2, none⟩ x2).setCell ⟨w.heap.size, 3, none⟩ x3) g s A cap L bad n := by
 have G := gb_set4 (b := w.heap.size) hgb (Nat.le_refl _) x0 x1 x2 x3
 exact ⟨G, H.next G hx.le ((heap_set4 (by have := H.lt; omega) _ _ _ _).trans hx.blk)⟩

theorem tokR_at (s : ByteArray) (fin n : Nat) (L : List (Nat × Nat)) (h : n < L.length) :
  tokR s fin (L.drop n) = if classOf (L[n]).1 = 1 then nameR s fin (L.drop n) else if classOf (L[n]).1 = 2 then numR fin (L[n]).1 (L.drop n) else if classOf (L[n]).1 = 4 then signR fin (L.drop n) else noTok := by
 rw [drop_at L n h]
 rfl

theorem place_drop (s : ByteArray) (bad : Option Nat) (L : List (Nat × Nat)) (n m : Nat) : placeAt s bad L (n + m) = placeIn (finOf s bad) (L.drop n) m := (placeIn_drop _ _ _ _).symm

theorem name_tok (w : World) (g : Nat) (s : ByteArray) (A : Option Addr) (cap : Nat) (L : List (Nat × Nat)) (bad : Option Nat) (n : Nat) (h : LexAt w g s A cap L bad n) :
  Calls Tryd.prog 134 #[.pointer (some ⟨g, 0, none⟩)] w (TokPost w g s A cap L bad n (nameR s (finOf s bad) (L.drop n))) := by
 refine (name_at w g s A cap L bad n h).mono fun e w' hp => ?_
 obtain ⟨he, hg, hx⟩ := hp
 refine ⟨?_, hg, hx⟩
 rw [he, place_drop s bad L n (moreN (L.drop n)), ← Nat.add_zero n, place_drop s bad L n 0]
 rfl
theorem number_tok (w : World) (g : Nat) (s : ByteArray) (A : Option Addr) (cap : Nat) (L : List (Nat × Nat)) (bad : Option Nat) (n : Nat) (h : LexAt w g s A cap L bad n) (hn : n < L.length) :
  Calls Tryd.prog 135 #[.pointer (some ⟨g, 0, none⟩)] w (TokPost w g s A cap L bad n (numR (finOf s bad) (L[n]).1 (L.drop n))) := by
 refine (number_at w g s A cap L bad n h hn).mono fun e w' hp => ?_
 obtain ⟨he, hg, hx⟩ := hp
 refine ⟨?_, hg, hx⟩
 have hp0 := place_drop s bad L n 0
 rw [Nat.add_zero] at hp0
 rw [he, hp0]
 rfl
theorem sign_tok (w : World) (g : Nat) (s : ByteArray) (A : Option Addr) (cap : Nat) (L : List (Nat × Nat)) (bad : Option Nat) (n : Nat) (h : LexAt w g s A cap L bad n) :
  Calls Tryd.prog 136 #[.pointer (some ⟨g, 0, none⟩)] w (TokPost w g s A cap L bad n (signR (finOf s bad) (L.drop n))) := by
 refine (sign_at' w g s A cap L bad n h).mono fun e w' hp => ?_
 have hp0 := place_drop s bad L n 0
 rw [Nat.add_zero] at hp0
 unfold SignPost at hp
 unfold signR
 split at hp
 ·obtain ⟨he, hg, hx⟩ := hp
  rename_i sg hs
  rw [hs]
  refine ⟨?_, hg, hx⟩
  rw [he, hp0]
  rfl
 ·obtain ⟨he, hg, hx⟩ := hp
  rename_i hs
  rw [hs]
  exact ⟨he, hg, hx⟩

set_option maxHeartbeats 1000000 in
theorem token_at (w : World) (g : Nat) (s : ByteArray) (A : Option Addr) (cap : Nat) (L : List (Nat × Nat)) (bad : Option Nat) (n : Nat) (h : LexAt w g s A cap L bad n) (hn : n < L.length) :
  Calls Tryd.prog 110 #[.pointer (some ⟨g, 0, none⟩)] w (TokPost w g s A cap L bad n (tokR s (finOf s bad) (L.drop n))) := by
 have htr := tokR_at s (finOf s bad) n L hn
 have hcl : classAt L n = classOf (L[n]).1 := by simp [classAt, hn]
 have hC := fun (W : World) (h : LexAt W g s A cap L bad n) => class_at W g s A cap L bad n h
 have hN := fun (W : World) (h : LexAt W g s A cap L bad n) => name_tok W g s A cap L bad n h
 have hD := fun (W : World) (h : LexAt W g s A cap L bad n) => number_tok W g s A cap L bad n h hn
 have hS := fun (W : World) (h : LexAt W g s A cap L bad n) => sign_tok W g s A cap L bad n h
 rw [hcl] at hC
 rw [htr]
 generalize nameR s (finOf s bad) (L.drop n) = tN at *
 generalize numR (finOf s bad) (L[n]).1 (L.drop n) = tD at *
 generalize signR (finOf s bad) (L.drop n) = tS at *
 generalize hcc : classOf (L[n]).1 = cc at *
 have HC := Lib.hid hC
 have HN := Lib.hid hN
 have HD := Lib.hid hD
 have HS := Lib.hid hS
 have H := Lib.hid h
 have hglt := h.lt
 have hgne : ¬ w.heap.size = g := by omega
 clear hC hN hD hS htr hcl hcc h
 have key : ∀ (w2 : World) (q : Nat), ((w.alloc (.cells #[.int .i64 0, .string ⟨#[]⟩, .int .i64 0, .int .i64 0] 71)).drewN q).grownBy w2 (some g) →
   w.grownBy w2 (some g) ∧ w2.heap[w.heap.size]? = some (.cells #[.int .i64 0, .string ⟨#[]⟩, .int .i64 0, .int .i64 0] 71 (0, 0)) := fun w2 q hg2 =>
  ⟨gb_trans (Jr (gb_alloc (World.grownBy.refl _ _) _) _) hg2, (hg2.block w.heap.size (by simp) (by simpa using hgne)).trans (heap_alloc_new w _)⟩
 have KEY := Lib.hid key
 clear key
 by_cases h1 : cc = 1
 ·rw [if_pos h1]
  have t1 : (cc == 1) = true := by rw [h1]; rfl
  clear h1
  go_enter Tryd.func110, Tryd.ntmps110
  go_wp2_with fail
  refine (HC.out _ (H.out.alloc _)).mono ?_
  rintro e w1 ⟨rfl, m, rfl⟩
  go_wp2_with fail
  refine (HN.out _ ((H.out.alloc _).drewN _)).mono ?_
  rintro e w2 ⟨rfl, hg2, hx2⟩
  obtain ⟨hgb, hB2⟩ := KEY.out w2 _ hg2
  have b0 : w2.cell? ⟨w.heap.size, 0, none⟩ = some (.int .i64 0) := cell_of_row _ w.heap.size 0 _ _ _ hB2
  have b1 : w2.cell? ⟨w.heap.size, 1, none⟩ = some (.string ⟨#[]⟩) := cell_of_row _ w.heap.size 1 _ _ _ hB2
  have b2 : w2.cell? ⟨w.heap.size, 2, none⟩ = some (.int .i64 0) := cell_of_row _ w.heap.size 2 _ _ _ hB2
  have b3 : w2.cell? ⟨w.heap.size, 3, none⟩ = some (.int .i64 0) := cell_of_row _ w.heap.size 3 _ _ _ hB2
  have bf : ∀ o, w2.frozen? ⟨w.heap.size, o, none⟩ = false := fun o => by simp [World.frozen?, hB2]
  have HB2 := Lib.hid hB2
  have HX2 := Lib.hid hx2
  clear hB2 hx2 hg2
  go_wp2
  obtain ⟨r0, r1, r2, r3⟩ := set4_cells HB2.out (.int .i64 tN.kind) (.string tN.text) (.int .i64 tN.num) (.int .i64 tN.at')
  refine bodyPost_ret (v := .tuple #[.agg #[.int .i64 tN.kind, .string tN.text, .int .i64 tN.num, .int .i64 tN.at'], .bool tN.ok]) (by simp [results, Tryd.results110, go_sem, r0, r1, r2, r3]) rfl ?_
  exact ⟨rfl, tok_fin H.out hgb HX2.out _ _ _ _⟩
 ·have t1 : (cc == 1) = false := by simp [h1]
  rw [if_neg h1]
  by_cases h2 : cc = 2
  ·rw [if_pos h2]
   have t2 : (cc == 2) = true := by rw [h2]; rfl
   clear h1 h2
   go_enter Tryd.func110, Tryd.ntmps110
   go_wp2_with fail
   refine (HC.out _ (H.out.alloc _)).mono ?_
   rintro e w1 ⟨rfl, m, rfl⟩
   go_wp2_with fail
   refine (HD.out _ ((H.out.alloc _).drewN _)).mono ?_
   rintro e w2 ⟨rfl, hg2, hx2⟩
   obtain ⟨hgb, hB2⟩ := KEY.out w2 _ hg2
   have b0 : w2.cell? ⟨w.heap.size, 0, none⟩ = some (.int .i64 0) := cell_of_row _ w.heap.size 0 _ _ _ hB2
   have b1 : w2.cell? ⟨w.heap.size, 1, none⟩ = some (.string ⟨#[]⟩) := cell_of_row _ w.heap.size 1 _ _ _ hB2
   have b2 : w2.cell? ⟨w.heap.size, 2, none⟩ = some (.int .i64 0) := cell_of_row _ w.heap.size 2 _ _ _ hB2
   have b3 : w2.cell? ⟨w.heap.size, 3, none⟩ = some (.int .i64 0) := cell_of_row _ w.heap.size 3 _ _ _ hB2
   have bf : ∀ o, w2.frozen? ⟨w.heap.size, o, none⟩ = false := fun o => by simp [World.frozen?, hB2]
   have HB2 := Lib.hid hB2
   have HX2 := Lib.hid hx2
   clear hB2 hx2 hg2
   go_wp2
   obtain ⟨r0, r1, r2, r3⟩ := set4_cells HB2.out (.int .i64 tD.kind) (.string tD.text) (.int .i64 tD.num) (.int .i64 tD.at')
   refine bodyPost_ret (v := .tuple #[.agg #[.int .i64 tD.kind, .string tD.text, .int .i64 tD.num, .int .i64 tD.at'], .bool tD.ok]) (by simp [results, Tryd.results110, go_sem, r0, r1, r2, r3]) rfl ?_
   exact ⟨rfl, tok_fin H.out hgb HX2.out _ _ _ _⟩
  ·have t2 : (cc == 2) = false := by simp [h2]
   rw [if_neg h2]
   by_cases h4 : cc = 4
   ·rw [if_pos h4]
    have t4 : (cc == 4) = true := by rw [h4]; rfl
    clear h1 h2 h4
    go_enter Tryd.func110, Tryd.ntmps110
    go_wp2_with fail
    refine (HC.out _ (H.out.alloc _)).mono ?_
    rintro e w1 ⟨rfl, m, rfl⟩
    go_wp2_with fail
    refine (HS.out _ ((H.out.alloc _).drewN _)).mono ?_
    rintro e w2 ⟨rfl, hg2, hx2⟩
    obtain ⟨hgb, hB2⟩ := KEY.out w2 _ hg2
    have b0 : w2.cell? ⟨w.heap.size, 0, none⟩ = some (.int .i64 0) := cell_of_row _ w.heap.size 0 _ _ _ hB2
    have b1 : w2.cell? ⟨w.heap.size, 1, none⟩ = some (.string ⟨#[]⟩) := cell_of_row _ w.heap.size 1 _ _ _ hB2
    have b2 : w2.cell? ⟨w.heap.size, 2, none⟩ = some (.int .i64 0) := cell_of_row _ w.heap.size 2 _ _ _ hB2
    have b3 : w2.cell? ⟨w.heap.size, 3, none⟩ = some (.int .i64 0) := cell_of_row _ w.heap.size 3 _ _ _ hB2
    have bf : ∀ o, w2.frozen? ⟨w.heap.size, o, none⟩ = false := fun o => by simp [World.frozen?, hB2]
    have HB2 := Lib.hid hB2
    have HX2 := Lib.hid hx2
    clear hB2 hx2 hg2
    go_wp2
    obtain ⟨r0, r1, r2, r3⟩ := set4_cells HB2.out (.int .i64 tS.kind) (.string tS.text) (.int .i64 tS.num) (.int .i64 tS.at')
    refine bodyPost_ret (v := .tuple #[.agg #[.int .i64 tS.kind, .string tS.text, .int .i64 tS.num, .int .i64 tS.at'], .bool tS.ok]) (by simp [results, Tryd.results110, go_sem, r0, r1, r2, r3]) rfl ?_
    exact ⟨rfl, tok_fin H.out hgb HX2.out _ _ _ _⟩
   ·have t4 : (cc == 4) = false := by simp [h4]
    rw [if_neg h4]
    clear h1 h2 h4
    go_enter Tryd.func110, Tryd.ntmps110
    go_wp2_with fail
    refine (HC.out _ (H.out.alloc _)).mono ?_
    rintro e w1 ⟨rfl, m, rfl⟩
    go_wp2
    refine bodyPost_ret (v := .tuple #[.agg #[.int .i64 0, .string ⟨#[]⟩, .int .i64 0, .int .i64 0], .bool false]) (by simp [results, Tryd.results110, go_sem]) rfl ?_
    exact ⟨rfl, Jr (gb_alloc (World.grownBy.refl _ _) _) _, (H.out.alloc _).drewN _⟩

theorem classOf_one {r : Int} : classOf r = 1 ↔ letterB r = true := by
 constructor
 ·intro h
  by_cases h1 : letterB r = true
  ·exact h1
  ·unfold classOf at h
   rw [if_neg h1] at h
   split at h
   ·simp at h
   ·split at h
    ·simp at h
    ·split at h <;> simp at h
 ·exact classOf_letter

/-- A token that may be has a rune. -/
theorem tokR_pos (s : ByteArray) (fin : Nat) (r : List (Nat × Nat)) (h : (tokR s fin r).ok = true) : 1 ≤ (tokR s fin r).len := by
  cases r with
  | nil => simp [tokR, noTok] at h
  | cons x r =>
    obtain ⟨c, a⟩ := x
    simp only [tokR] at h ⊢
    by_cases h1 : classOf (c : Int) = 1
    · rw [if_pos h1]
      simp only [nameR, moreN]
      rw [if_pos (by simp [moreB, classOf_one.1 h1])]
      omega
    · rw [if_neg h1] at h ⊢
      by_cases h2 : classOf (c : Int) = 2
      · rw [if_pos h2]
        simp only [numR, digN]
        rw [if_pos (classOf_two.1 h2)]
        omega
      · rw [if_neg h2] at h ⊢
        by_cases h4 : classOf (c : Int) = 4
        · rw [if_pos h4] at h ⊢
          unfold signR at h ⊢
          split at h
          · rename_i sg hs
            exact (signs_size sg (List.mem_of_find?_eq_some hs)).1
          · simp [noTok] at h
        · rw [if_neg h4] at h
          simp [noTok] at h

/-- The tokens of runes whose blanks ahead were read: them, or where the first error lies. -/
def lexH (s : ByteArray) (fin : Nat) : Nat → List (Nat × Nat) → Option (List TokR) × Nat
  | 0, _ => (some [], 0)
  | _ + 1, [] => (some [], 0)
  | f + 1, x :: r =>
    if (tokR s fin (x :: r)).ok then
      ((lexH s fin f (((x :: r).drop (tokR s fin (x :: r)).len).drop (blankGo false ((x :: r).drop (tokR s fin (x :: r)).len)))).1.map (tokR s fin (x :: r) :: ·),
        (lexH s fin f (((x :: r).drop (tokR s fin (x :: r)).len).drop (blankGo false ((x :: r).drop (tokR s fin (x :: r)).len)))).2)
    else (none, placeIn fin (x :: r) 0)
def endTok (s : ByteArray) : TokR := ⟨4, ⟨#[]⟩, 0, s.size, true, 0⟩
/-- A text's tokens, a place, an error. -/
def tokens (s : ByteArray) : List TokR × Nat × Int :=
  if 2000 < s.size then ([], 0, 3)
  else match lexH s (finOf s (each s).2) ((each s).1.length + 1) ((each s).1.drop (blankGo false (each s).1)) with
    | (none, p) => ([], p, 2)
    | (some l, _) => match (each s).2 with
      | some q => ([], q, 2)
      | none => (l ++ [endTok s], s.size, 0)
def tokCells (l : List TokR) : List Value := l.flatMap fun t => [.int .i64 t.kind, .string t.text, .int .i64 t.num, .int .i64 t.at']
theorem tokCells_snoc (l : List TokR) (t : TokR) : tokCells l ++ [.int .i64 t.kind, .string t.text, .int .i64 t.num, .int .i64 t.at'] = tokCells (l ++ [t]) := by
 simp [tokCells]

def comb (acc : List TokR) (x : Option (List TokR) × Nat) : Option (List TokR) × Nat := (x.1.map (acc ++ ·), x.2)
theorem comb_ok (s : ByteArray) (fin : Nat) (f : Nat) (r : List (Nat × Nat)) (acc : List TokR) (hr : 0 < r.length) (h : (tokR s fin r).ok = true) :
  comb acc (lexH s fin (f + 1) r) = comb (acc ++ [tokR s fin r]) (lexH s fin f ((r.drop (tokR s fin r).len).drop (blankGo false (r.drop (tokR s fin r).len)))) := by
 cases r with
 | nil => simp at hr
 | cons x r =>
  rw [lexH, if_pos h]
  generalize tokR s fin (x :: r) = t
  generalize lexH s fin f _ = y
  obtain ⟨y1, y2⟩ := y
  cases y1 <;> simp [comb]
theorem comb_bad (s : ByteArray) (fin : Nat) (f : Nat) (r : List (Nat × Nat)) (acc : List TokR) (hr : 0 < r.length) (h : (tokR s fin r).ok = false) :
  comb acc (lexH s fin (f + 1) r) = (none, placeIn fin r 0) := by
 cases r with
 | nil => simp at hr
 | cons x r =>
  rw [lexH, if_neg (by rw [h]; decide)]
  rfl
theorem comb_end (s : ByteArray) (fin : Nat) (f : Nat) (acc : List TokR) : comb acc (lexH s fin f []) = (some acc, 0) := by
 cases f <;> simp [lexH, comb]

end Go.Proofs.YtmjnbdkjekdkgaaDoor
