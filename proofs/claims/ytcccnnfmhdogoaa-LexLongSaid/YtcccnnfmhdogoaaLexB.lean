/-
  The lexer of 'lex': 'isMore', 'skips', 'length', 'blank'.
-/
import Derived.Test.YtcccnnfmhdogoaaLexA
namespace Go.Proofs.Ytcccnnfmhdogoaa
open Go Go.RowKit
set_option linter.unusedVariables false

/-- Does a rune go on with a name? -/
def moreB (r : Int) : Bool := letterB r || digitB r || decide (r = 39)
def moreAt (L : List (Nat × Nat)) (n : Nat) : Bool := match L[n]? with
  | some x => moreB x.1
  | none => false

theorem classOf_letter {r : Int} (h : letterB r = true) : classOf r = 1 := by simp [classOf, h]
theorem classOf_digit {r : Int} (h1 : letterB r = false) (h : digitB r = true) : classOf r = 2 := by simp [classOf, h1, h]
theorem classOf_39 : classOf 39 = 4 := by decide +kernel
theorem classOf_more {r : Int} : (classOf r = 1 ∨ classOf r = 2 ∨ (classOf r = 4 ∧ r = 39)) ↔ moreB r = true := by
  unfold moreB
  by_cases h1 : letterB r = true
  · simp [classOf_letter h1, h1]
  · have h1 : letterB r = false := by simpa using h1
    by_cases h2 : digitB r = true
    · simp [classOf_digit h1 h2, h2]
    · have h2 : digitB r = false := by simpa using h2
      have hc : classOf r ≠ 1 ∧ classOf r ≠ 2 := by
        unfold classOf
        rw [h1, h2]
        simp only [Bool.false_eq_true, if_false]
        repeat' split
        all_goals decide
      simp only [h1, h2, Bool.or_false, Bool.false_or, decide_eq_true_eq]
      constructor
      · rintro (h | h | h)
        · exact absurd h hc.1
        · exact absurd h hc.2
        · exact h.2
      · rintro rfl
        exact .inr (.inr ⟨classOf_39, rfl⟩)

theorem isMore_at (w : World) (g : Nat) (s : ByteArray) (A : Option Addr) (cap : Nat) (L : List (Nat × Nat)) (bad : Option Nat) (n : Nat) (h : LexAt w g s A cap L bad n) :
    Calls Try.prog 29 #[.pointer (some ⟨g, 0, none⟩)] w (Quiet (.bool (moreAt L n)) w) := by
  have c1 := h.c1
  have c3 := h.c3
  have hcl := h.cap_le
  have hfew := h.few
  have hle := h.le
  by_cases hn : n < L.length
  · obtain ⟨k, rfl, hk, e1, e2⟩ := h.rune hn
    have hcls : classAt L n = classOf (L[n]).1 := by simp [classAt, hn]
    have hm : moreAt L n = moreB (L[n]).1 := by simp [moreAt, hn]
    rw [hm]
    have hcc := classOf_more (r := ((L[n]).1 : Int))
    have hC := class_at w g s _ cap L bad n h
    rw [hcls] at hC
    clear hcls hm e2 hle
    generalize ((L[n]'hn).1 : Int) = r at *
    have HC := Lib.hid hC
    have HCC := Lib.hid hcc
    clear hC hcc
    generalize hc : classOf r = c at *
    have HH := Lib.hid hc
    clear hc
    generalize hL : L.length = N at *
    clear hL
    by_cases q1 : c = 1
    · have t1 : (c == 1) = true := by simp [q1]
      have hb : moreB r = true := HCC.out.1 (.inl q1)
      rw [hb]
      clear q1 hb
      go_enter Try.func29, Try.ntmps29
      go_wp2_with fail
      refine HC.out.mono ?_
      rintro e w1 ⟨rfl, m, rfl⟩
      go_wp2_with fail
      go_quiet (fail)
      go_wp2
      go_ret
      exact ⟨rfl, _, by first | rfl | exact World.drewN_drewN _ _ _⟩
    · have t1 : (c == 1) = false := by simp [q1]
      by_cases q2 : c = 2
      · have t2 : (c == 2) = true := by simp [q2]
        have hb : moreB r = true := HCC.out.1 (.inr (.inl q2))
        rw [hb]
        clear q1 q2 hb
        go_enter Try.func29, Try.ntmps29
        go_wp2_with fail
        refine HC.out.mono ?_
        rintro e w1 ⟨rfl, m, rfl⟩
        go_wp2_with fail
        go_quiet (fail)
        go_wp2
        go_ret
        exact ⟨rfl, _, by first | rfl | exact World.drewN_drewN _ _ _⟩
      · have t2 : (c == 2) = false := by simp [q2]
        by_cases q4 : c = 4
        · have t4 : (c == 4) = true := by simp [q4]
          have hb : moreB r = (r == 39) := by
            rw [Bool.eq_iff_iff, ← HCC.out]
            simp [q4]
          rw [hb]
          clear q1 q2 q4 hb
          go_enter Try.func29, Try.ntmps29
          go_wp2_with fail
          refine HC.out.mono ?_
          rintro e w1 ⟨rfl, m, rfl⟩
          go_wp2_with fail
          go_quiet (fail)
          go_wp2
          go_ret
          exact ⟨rfl, _, by first | rfl | exact World.drewN_drewN _ _ _⟩
        · have t4 : (c == 4) = false := by simp [q4]
          have hb : moreB r = false := by
            rw [Bool.eq_false_iff]
            intro hb
            rcases HCC.out.2 hb with h | h | h
            · exact q1 h
            · exact q2 h
            · exact q4 h.1
          rw [hb]
          clear q1 q2 q4 hb
          go_enter Try.func29, Try.ntmps29
          go_wp2_with fail
          refine HC.out.mono ?_
          rintro e w1 ⟨rfl, m, rfl⟩
          go_wp2_with fail
          go_quiet (fail)
          go_wp2
          go_ret
          exact ⟨rfl, _, by first | rfl | exact World.drewN_drewN _ _ _⟩
  · have hcls : classAt L n = -1 := by simp [classAt, hn]
    have hm : moreAt L n = false := by simp [moreAt, hn]
    rw [hm]
    have hC := class_at w g s _ cap L bad n h
    rw [hcls] at hC
    have HC := Lib.hid hC
    clear hC hcls hm
    go_enter Try.func29, Try.ntmps29
    go_wp2_with fail
    refine HC.out.mono ?_
    rintro e w1 ⟨rfl, m, rfl⟩
    go_wp2_with fail
    go_quiet (fail)
    go_wp2
    go_ret
    exact ⟨rfl, _, by first | rfl | exact World.drewN_drewN _ _ _⟩

/-- How many runes a blank is: spaces and comments (true: within a comment). -/
def blankGo : Bool → List (Nat × Nat) → Nat
  | _, [] => 0
  | true, (c, _) :: r => if c = 10 then blankGo false r + 1 else blankGo true r + 1
  | false, (c, _) :: r => if spaceB c then blankGo false r + 1 else if c = 35 then blankGo true r + 1 else 0
/-- How many runes stand ahead of the next line feed. -/
def commentGo : List (Nat × Nat) → Nat
  | [] => 0
  | (c, _) :: r => if c = 10 then 0 else commentGo r + 1
theorem blank_comment : ∀ r : List (Nat × Nat), blankGo true r = commentGo r + blankGo false (r.drop (commentGo r)) := by
  intro r
  induction r with
  | nil => rfl
  | cons x r ih =>
    obtain ⟨c, a⟩ := x
    by_cases h : c = 10
    · subst h
      rw [blankGo, commentGo, if_pos rfl, if_pos rfl, List.drop_zero, blankGo]
      rw [if_pos (by decide +kernel)]
      omega
    · rw [blankGo, commentGo, if_neg h, if_neg h, List.drop_succ_cons, ih]
      omega
theorem commentGo_le : ∀ r : List (Nat × Nat), commentGo r ≤ r.length := by
  intro r
  induction r with
  | nil => simp [commentGo]
  | cons x r ih =>
    obtain ⟨c, a⟩ := x
    rw [commentGo]
    split
    · omega
    · simp; omega
theorem drop_at (L : List (Nat × Nat)) (n : Nat) (h : n < L.length) : L.drop n = (L[n].1, L[n].2) :: L.drop (n + 1) := by
  rw [List.drop_eq_getElem_cons h]

/-- The lexer has read on to rune n'. -/
def Moved (w : World) (g : Nat) (s : ByteArray) (A : Option Addr) (cap : Nat) (L : List (Nat × Nat)) (bad : Option Nat) (n' : Nat) (e : Ending) (w' : World) : Prop :=
  e = .returned (.tuple #[]) ∧ w.grownBy w' (some g) ∧ LexAt w' g s A cap L bad n'

theorem skips_at (w : World) (g : Nat) (s : ByteArray) (A : Option Addr) (cap : Nat) (L : List (Nat × Nat)) (bad : Option Nat) (n : Nat) (h : LexAt w g s A cap L bad n) :
    Calls Try.prog 24 #[.pointer (some ⟨g, 0, none⟩)] w (Moved w g s A cap L bad (n + commentGo (L.drop n))) := by
  go_enter Try.func24, Try.ntmps24
  go_wp2_with fail
  go_loopg [] (L.length - n) (fun m wr => ∃ k : Nat, m = L.length - k ∧ k ≤ L.length ∧ LexAt wr g s A cap L bad k ∧ w.grownBy wr (some g) ∧ k + commentGo (L.drop k) = n + commentGo (L.drop n))
  case atStart => exact ⟨n, rfl, h.le, h, World.grownBy.refl _ _, rfl⟩
  case round =>
    obtain ⟨k, rfl, hk, hx, hgb, hcount⟩ := hrel
    have c1 := hx.c1
    have c3 := hx.c3
    have hcl := hx.cap_le
    have hfew := hx.few
    have HX := Lib.hid hx
    have HCO := Lib.hid hcount
    have hf := hx.fz 3
    clear hx hcount h
    by_cases hn : k < L.length
    · obtain ⟨j, rfl, hj, e1, e2⟩ := HX.out.rune hn
      have hd := Lib.hid (drop_at L k hn)
      clear e2
      by_cases h10 : (L[k]'hn).1 = 10
      · have hb : (((L[k]'hn).1 : Int) != 10) = false := by rw [h10]; rfl
        have H10 := Lib.hid h10
        clear h10
        generalize (((L[k]'hn).1 : Nat) : Int) = r at *
        go_wp2_with fail
        go_quiet (fail)
        go_wp2
        go_end0
        refine ⟨rfl, gb_drewN hgb _, ?_⟩
        have e : n + commentGo (L.drop n) = k := by
          rw [← HCO.out, hd.out, commentGo, if_pos H10.out]
          rfl
        rw [e]
        exact HX.out.drewN _
      · have hb : (((L[k]'hn).1 : Int) != 10) = true := by rw [bne_iff_ne]; omega
        have H10 := Lib.hid h10
        clear h10
        generalize (((L[k]'hn).1 : Nat) : Int) = r at *
        go_wp2_with fail
        go_quiet (fail)
        go_wp2
        go_roundg (L.length - (k + 1))
        case measure => omega
        case rel =>
          refine ⟨k + 1, rfl, hn, ?_, ?_, ?_⟩
          · have := (HX.out.drewN nq).put (n' := k + 1) hn
            simpa using this
          · have := gb_setCell (gb_drewN hgb nq) 3 (.int .i64 ((k : Int) + 1))
            simpa using this
          · rw [← HCO.out, hd.out, commentGo, if_neg H10.out]
            omega
    · go_wp2_with fail
      go_quiet (fail)
      go_wp2
      go_end0
      refine ⟨rfl, gb_drewN hgb _, ?_⟩
      have e : n + commentGo (L.drop n) = k := by
        rw [← HCO.out, List.drop_eq_nil_of_le (by omega)]
        rfl
      rw [e]
      exact HX.out.drewN _

theorem classOf_space {r : Int} : classOf r = 3 ↔ spaceB r = true := by
  unfold classOf
  constructor
  · intro h
    by_cases h1 : letterB r = true
    · simp [h1] at h
    · by_cases h2 : digitB r = true
      · simp [h1, h2] at h
      · by_cases h3 : spaceB r = true
        · exact h3
        · by_cases h4 : signB r = true <;> simp [h1, h2, h3, h4] at h
  · intro h
    have hr : r = 32 ∨ r = 9 ∨ r = 10 ∨ r = 13 := by simpa [spaceB] using h
    rcases hr with rfl | rfl | rfl | rfl <;> decide +kernel

theorem blank_at (w : World) (g : Nat) (s : ByteArray) (A : Option Addr) (cap : Nat) (L : List (Nat × Nat)) (bad : Option Nat) (n : Nat) (h : LexAt w g s A cap L bad n) :
    Calls Try.prog 18 #[.pointer (some ⟨g, 0, none⟩)] w (Moved w g s A cap L bad (n + blankGo false (L.drop n))) := by
  go_enter Try.func18, Try.ntmps18
  go_wp2_with fail
  go_loopg [] (L.length - n) (fun m wr => ∃ k : Nat, m = L.length - k ∧ k ≤ L.length ∧ LexAt wr g s A cap L bad k ∧ w.grownBy wr (some g) ∧ k + blankGo false (L.drop k) = n + blankGo false (L.drop n))
  case atStart => exact ⟨n, rfl, h.le, h, World.grownBy.refl _ _, rfl⟩
  case round =>
    obtain ⟨k, rfl, hk, hx, hgb, hcount⟩ := hrel
    have c1 := hx.c1
    have c3 := hx.c3
    have hcl := hx.cap_le
    have hfew := hx.few
    have HX := Lib.hid hx
    have HCO := Lib.hid hcount
    have hf := hx.fz 3
    clear hx hcount h
    by_cases hn : k < L.length
    · obtain ⟨j, rfl, hj, e1, e2⟩ := HX.out.rune hn
      have hd := Lib.hid (drop_at L k hn)
      have hcls : classAt L k = classOf (L[k]).1 := by simp [classAt, hn]
      have HCL := Lib.hid hcls
      clear e2 hcls
      by_cases hsp : spaceB ((L[k]'hn).1 : Int) = true
      · have h3 : classOf (L[k]).1 = 3 := classOf_space.2 hsp
        have hb : (classAt L k == 3) = true := by rw [HCL.out, h3]; rfl
        have HS := Lib.hid hsp
        clear hsp h3
        go_wp2_with fail
        go_quiet (fail)
        go_wp2_with fail
        refine (class_at _ g s _ cap L bad k (HX.out.drewN _)).mono ?_
        rintro e w1 ⟨rfl, m, rfl⟩
        go_wp2
        go_roundg (L.length - (k + 1))
        case measure => omega
        case rel =>
          refine ⟨k + 1, rfl, hn, ?_, ?_, ?_⟩
          · have := (HX.out.drewN (nq + m)).put (n' := k + 1) hn
            simpa using this
          · have := gb_setCell (gb_drewN hgb (nq + m)) 3 (.int .i64 ((k : Int) + 1))
            simpa using this
          · rw [← HCO.out, hd.out, blankGo, if_pos HS.out]
            omega
      · have hb : (classAt L k == 3) = false := by
          rw [HCL.out, beq_eq_false_iff_ne]
          exact fun h => hsp (classOf_space.1 h)
        have HS := Lib.hid hsp
        clear hsp
        by_cases h35 : (L[k]'hn).1 = 35
        · have hb2 : (((L[k]'hn).1 : Int) == 35) = true := by rw [h35]; rfl
          have H35 := Lib.hid h35
          clear h35
          have HS2 : Hid (spaceB ((L[k]'hn).1 : Int) = false) := Lib.hid (by simpa using HS.out)
          clear HS
          generalize hr : (((L[k]'hn).1 : Nat) : Int) = r at *
          have HR := Lib.hid hr
          clear hr
          go_wp2_with fail
          go_quiet (fail)
          go_wp2_with fail
          refine (class_at _ g s _ cap L bad k (HX.out.drewN _)).mono ?_
          rintro e w1 ⟨rfl, m, rfl⟩
          go_wp2_with fail
          go_quiet (fail)
          go_wp2_with fail
          refine (skips_at _ g s _ cap L bad k (by simpa using HX.out.drewN _)).mono ?_
          rintro e w1 ⟨rfl, hg1, hx1⟩
          have hc1 : commentGo (L.drop k) = commentGo (L.drop (k + 1)) + 1 := by rw [hd.out, commentGo, if_neg (by rw [H35.out]; decide)]
          have hc2 : blankGo false (L.drop k) = blankGo true (L.drop (k + 1)) + 1 := by
            rw [hd.out, blankGo, if_neg (by rw [HR.out, HS2.out]; decide), if_pos H35.out]
          have hc3 := blank_comment (L.drop (k + 1))
          rw [List.drop_drop] at hc3
          have hc4 : k + commentGo (L.drop k) ≤ L.length := hx1.le
          have HC := Lib.hid (show (k + commentGo (L.drop k)) + blankGo false (L.drop (k + commentGo (L.drop k))) = n + blankGo false (L.drop n) by
            rw [← HCO.out, hc2, hc3, hc1, show k + (commentGo (L.drop (k + 1)) + 1) = k + 1 + commentGo (L.drop (k + 1)) by omega]
            omega)
          have hc5 : k < k + commentGo (L.drop k) := by omega
          clear hc1 hc2 hc3
          generalize k + commentGo (L.drop k) = k2 at *
          go_wp2
          go_roundg (L.length - k2)
          case measure => omega
          case rel => exact ⟨k2, rfl, hc4, hx1, gb_trans (gb_drewN hgb _) hg1, HC.out⟩
        · have hb2 : (((L[k]'hn).1 : Int) == 35) = false := by simp; omega
          have H35 := Lib.hid h35
          clear h35
          have HS2 : Hid (spaceB ((L[k]'hn).1 : Int) = false) := Lib.hid (by simpa using HS.out)
          clear HS
          generalize hr : (((L[k]'hn).1 : Nat) : Int) = r at *
          have HR := Lib.hid hr
          clear hr
          go_wp2_with fail
          go_quiet (fail)
          go_wp2_with fail
          refine (class_at _ g s _ cap L bad k (HX.out.drewN _)).mono ?_
          rintro e w1 ⟨rfl, m, rfl⟩
          go_wp2_with fail
          go_quiet (fail)
          go_wp2
          refine bodyPost_ret (results_none rfl _ _ _) rfl ?_
          refine ⟨rfl, gb_drewN (gb_drewN hgb _) _, ?_⟩
          have e : n + blankGo false (L.drop n) = k := by
            rw [← HCO.out, hd.out, blankGo, if_neg (by rw [HR.out, HS2.out]; decide), if_neg H35.out]
            rfl
          rw [e]
          exact (HX.out.drewN _).drewN _
    · go_wp2_with fail
      go_quiet (fail)
      go_wp2
      go_end0
      refine ⟨rfl, gb_drewN hgb _, ?_⟩
      have e : n + blankGo false (L.drop n) = k := by
        rw [← HCO.out, List.drop_eq_nil_of_le (by omega)]
        rfl
      rw [e]
      exact HX.out.drewN _

/-- How many runes a text has, from a place on. -/
def countGo (s : ByteArray) : Nat → Nat → Nat
  | 0, _ => 0
  | f + 1, p => if p < s.size then countGo s f (p + (Utf8.decode s p).2) + 1 else 0
def count (s : ByteArray) : Nat := countGo s s.size 0
theorem countGo_end (s : ByteArray) (f p : Nat) (h : ¬ p < s.size) : countGo s f p = 0 := by cases f <;> simp [countGo, h]
theorem countGo_step (s : ByteArray) (f p : Nat) (h : p < s.size) : countGo s (f + 1) p = countGo s f (p + (Utf8.decode s p).2) + 1 := by rw [countGo, if_pos h]

theorem countGo_le (s : ByteArray) : ∀ f p, countGo s f p ≤ f := by
  intro f
  induction f with
  | zero => intro p; simp [countGo]
  | succ f ih =>
    intro p
    rw [countGo]
    split
    · have := ih (p + (Utf8.decode s p).2); omega
    · omega

theorem length_any (s : ByteArray) (w : World) (hs : s.size ≤ 100000) :
    Calls Try.prog 31 #[.string s] w fun e w' => e = .returned (.int .i64 (count s)) ∧ Below w.heap.size w w' := by
  go_enter Try.func31, Try.ntmps31
  go_wp2
  go_loopw [3] (fun nv wr => ∃ (p f c : Nat), wr.heap[w.heap.size]? = some (.stringIter s p) ∧ s.size ≤ p + f ∧ p ≤ s.size ∧ c ≤ p ∧ nv = .int .i64 c ∧
      c + countGo s f p = count s ∧ Below w.heap.size w wr)
    (fun _ wr => s.size - wr.iterPos w.heap.size)
  case atStart =>
    exact ⟨0, s.size, 0, World.iter_heap w s 0, by omega, by omega, by omega, rfl, by simp [count], (Below.refl _ _).alloc (Nat.le_refl _) _⟩
  case round =>
    obtain ⟨p, f, c, hit, hf, hp, hc, rfl, h1, hb⟩ := hrel
    have H1 := Lib.hid h1
    clear h1
    by_cases hlt : p < s.size
    · have hn := fun ty => Lib.run_next_any_at (P := Try.prog) _ _ s p ty hit hlt
      have hw := dec_width s p hlt
      obtain ⟨f, rfl⟩ : ∃ f', f = f' + 1 := ⟨f - 1, by omega⟩
      have hit' := Lib.hid (Lib.iterAt_heap wr _ s p (p + (Utf8.decode s p).2) hit)
      have hb' := Lib.below_iterAt hb (Nat.le_refl _) s (p + (Utf8.decode s p).2)
      go_wp2
      go_roundw
      case rel => exact ⟨_, f, c + 1, hit'.out, by omega, hw.2, by omega, by go_num, by rw [← H1.out, countGo_step s f p hlt]; omega, hb'⟩
      case measure => rw [iterPos_of hit'.out, iterPos_of hit]; omega
    · have hn := fun ty => Lib.run_next_end_at (P := Try.prog) _ _ s p ty hit hlt
      go_wp2
      go_ret
      rw [countGo_end s f p hlt] at H1
      exact ⟨ret_int (by have := H1.out; omega), hb⟩

end Go.Proofs.Ytcccnnfmhdogoaa
