/-
  Several texts in one: XRunesC, XRunesA, XRunesB, XLexP, XLexA, XLexB, XLexC, XLexD, XLexE, XLexF.
-/
import GoSem.Core.Utf8
import Derived.Test.YtcccnnfmhdogoaaDoorProg
import Derived.Test.YtcccnnfmhdogoaaDoorKit
import Derived.Test.YtcccnnfmhdogoaaDoorRunesP
import Derived.StillTailTactics
import Derived.Deep.RegionHeld3
import Derived.Deep.RegionWith
import Derived.BigRegion
section
/-
  The classes of runes: plain functions. No program here.
-/
namespace Go.Proofs.YtcccnnfmhdogoaaDoor
open Go

/-- A letter. -/
def letterB (r : Int) : Bool := decide ((97 ≤ r ∧ r ≤ 122) ∨ (65 ≤ r ∧ r ≤ 90) ∨ r = 95 ∨ (945 ≤ r ∧ r ≤ 969))
def digitB (r : Int) : Bool := decide (48 ≤ r ∧ r ≤ 57)
def spaceB (r : Int) : Bool := decide (r = 32 ∨ r = 9 ∨ r = 10 ∨ r = 13)
def signB (r : Int) : Bool := decide (r = 61 ∨ r = 126 ∨ r = 60 ∨ r = 62 ∨ r = 38 ∨ r = 124 ∨ r = 40 ∨ r = 41 ∨ r = 123 ∨ r = 125 ∨ r = 44 ∨ r = 59 ∨ r = 58 ∨ r = 43 ∨ r = 92 ∨ r = 35 ∨ r = 39)
/-- A rune's class. -/
def classOf (r : Int) : Int := if letterB r then 1 else if digitB r then 2 else if spaceB r then 3 else if signB r then 4 else 0

end Go.Proofs.YtcccnnfmhdogoaaDoor
end

section
/-
  The classes of runes: what 'runes.isLetter', 'runes.Class' and the reference's 'Class' compute.
-/
namespace Go.Proofs.YtcccnnfmhdogoaaDoor
open Go Go.RowKit

theorem isLetter_any (r : Int) (w : World) :
    Calls Tryd.prog 26 #[.int .i32 r] w fun e w' => e = .returned (.bool (letterB r)) ∧ w = w' := by
  go_enter Tryd.func26, Tryd.ntmps26
  go_wp2
  all_goals
    go_ret
    refine ⟨ret_bool ?_, rfl⟩
    rw [Bool.eq_iff_iff]
    simp [letterB]
    try omega

theorem class_letter (r : Int) (w : World) (h : letterB r = true) :
    Calls Tryd.prog 17 #[.int .i32 r] w fun e w' => e = .returned (.int .i64 (classOf r)) ∧ w = w' := by
  have hc : classOf r = 1 := by simp [classOf, h]
  rw [hc]
  clear hc
  go_enter Tryd.func17, Tryd.ntmps17
  go_wp2_with (go_at_call 26; refine (isLetter_any _ _).mono ?_; rintro e w' ⟨rfl, rfl⟩)
  go_ret
  exact ⟨rfl, rfl⟩
theorem class_other (r : Int) (w : World) (h : letterB r = false) :
    Calls Tryd.prog 17 #[.int .i32 r] w fun e w' => e = .returned (.int .i64 (classOf r)) ∧ w = w' := by
  go_enter Tryd.func17, Tryd.ntmps17
  go_wp2_with (go_at_call 26; refine (isLetter_any _ _).mono ?_; rintro e w' ⟨rfl, rfl⟩)
  all_goals
    go_ret
    refine ⟨ret_int ?_, rfl⟩
    unfold classOf
    rw [if_neg (by rw [h]; decide)]
    try simp only [beq_iff_eq, beq_eq_false_iff_ne, ne_eq] at *
    simp only [digitB, spaceB, signB, decide_eq_true_eq]
    repeat' split
    all_goals omega
theorem class_any (r : Int) (w : World) :
    Calls Tryd.prog 17 #[.int .i32 r] w fun e w' => e = .returned (.int .i64 (classOf r)) ∧ w = w' := by
  cases h : letterB r
  · exact class_other r w h
  · exact class_letter r w h



def signsL : List UInt8 := [61, 126, 60, 62, 38, 124, 40, 41, 123, 125, 44, 59, 58, 43, 92, 35, 39]

theorem signs_mem (r : Int) : signB r = true ↔ ∃ k, k < 17 ∧ r = ((signsL.getD k 0).toNat : Int) := by
  constructor
  · intro h
    simp only [signB, decide_eq_true_eq] at h
    rcases h with rfl | rfl | rfl | rfl | rfl | rfl | rfl | rfl | rfl | rfl | rfl | rfl | rfl | rfl | rfl | rfl | rfl
    · exact ⟨0, by decide, by decide⟩
    · exact ⟨1, by decide, by decide⟩
    · exact ⟨2, by decide, by decide⟩
    · exact ⟨3, by decide, by decide⟩
    · exact ⟨4, by decide, by decide⟩
    · exact ⟨5, by decide, by decide⟩
    · exact ⟨6, by decide, by decide⟩
    · exact ⟨7, by decide, by decide⟩
    · exact ⟨8, by decide, by decide⟩
    · exact ⟨9, by decide, by decide⟩
    · exact ⟨10, by decide, by decide⟩
    · exact ⟨11, by decide, by decide⟩
    · exact ⟨12, by decide, by decide⟩
    · exact ⟨13, by decide, by decide⟩
    · exact ⟨14, by decide, by decide⟩
    · exact ⟨15, by decide, by decide⟩
    · exact ⟨16, by decide, by decide⟩
  · rintro ⟨k, hk, rfl⟩
    revert k
    decide

theorem sign_at (k : Nat) (h' : k < (ByteArray.mk #[61, 126, 60, 62, 38, 124, 40, 41, 123, 125, 44, 59, 58, 43, 92, 35, 39]).size) : wrap32 ↑(ByteArray.mk #[61, 126, 60, 62, 38, 124, 40, 41, 123, 125, 44, 59, 58, 43, 92, 35, 39])[k].toNat = ((signsL.getD k 0).toNat : Int) := by
  have h : k < 17 := h'
  revert k
  decide +kernel
theorem sign_yes {r : Int} {k : Nat} {h2 : k < (ByteArray.mk #[61, 126, 60, 62, 38, 124, 40, 41, 123, 125, 44, 59, 58, 43, 92, 35, 39]).size} (ht : (r == wrap32 ↑((ByteArray.mk #[61, 126, 60, 62, 38, 124, 40, 41, 123, 125, 44, 59, 58, 43, 92, 35, 39])[k]'h2).toNat) = true) : r = ((signsL.getD k 0).toNat : Int) := by
  rw [beq_iff_eq] at ht
  exact ht.trans (sign_at k h2)
theorem sign_no {r : Int} {k : Nat} {h2 : k < (ByteArray.mk #[61, 126, 60, 62, 38, 124, 40, 41, 123, 125, 44, 59, 58, 43, 92, 35, 39]).size} (ht : (r == wrap32 ↑((ByteArray.mk #[61, 126, 60, 62, 38, 124, 40, 41, 123, 125, 44, 59, 58, 43, 92, 35, 39])[k]'h2).toNat) = false) : r ≠ ((signsL.getD k 0).toNat : Int) := by
  rw [beq_eq_false_iff_ne] at ht
  exact fun e => ht (e.trans (sign_at k h2).symm)

theorem ref_class (r : Int) (w : World) :
    Calls Tryd.prog 43 #[.int .i32 r] w fun e w' => e = .returned (.int .i64 (classOf r)) ∧ w = w' := by
  go_enter Tryd.func43, Tryd.ntmps43
  go_upto_region 1 with fail
  go_cut [0, 5] (fun r0 c wx => r0 = .int .i32 r ∧ c = .bool (letterB r) ∧ w = wx)
  case first =>
    go_wp2
    all_goals
      go_meet
      refine ⟨by simp [*], ?_, rfl⟩
      refine congrArg Value.bool ?_
      rw [Bool.eq_iff_iff]
      simp [letterB]
      try omega
  case rest =>
    obtain ⟨rfl, rfl, rfl⟩ := hcut
    cases hl : letterB r
    case true =>
      go_wp2
      go_ret
      exact ⟨ret_int (by simp [classOf, hl]), rfl⟩
    case false =>
      go_upto_region 3 with fail
      go_cut [32] (fun c wx => c = .bool (digitB r) ∧ w = wx)
      case first =>
        go_wp2
        all_goals
          go_meet
          refine ⟨?_, rfl⟩
          refine congrArg Value.bool ?_
          rw [Bool.eq_iff_iff]
          simp [digitB]
          try omega
      case rest =>
        obtain ⟨rfl, rfl⟩ := hcut
        cases hd : digitB r
        case true =>
          go_wp2
          go_ret
          exact ⟨ret_int (by simp [classOf, hl, hd]), rfl⟩
        case false =>
          go_upto_region 5 with fail
          go_cut [0, 39] (fun r0 c wx => r0 = .int .i32 r ∧ c = .bool (spaceB r) ∧ w = wx)
          case first =>
            go_wp2
            all_goals
              go_meet
              refine ⟨by simp [*], ?_, rfl⟩
              refine congrArg Value.bool ?_
              rw [Bool.eq_iff_iff]
              simp_all [spaceB]
          case rest =>
            obtain ⟨rfl, rfl, rfl⟩ := hcut
            cases hs : spaceB r
            case true =>
              go_wp2
              go_ret
              exact ⟨ret_int (by simp [classOf, hl, hd, hs]), rfl⟩
            case false =>
              go_wp2
              go_loop [4] (fun i => ∃ k : Nat, k ≤ 17 ∧ i = .int .i64 k ∧ ∀ j, j < k → r ≠ ((signsL.getD j 0).toNat : Int)) (fun i => 17 - (intOf i).toNat)
              case atStart => exact ⟨0, by omega, rfl, by omega⟩
              case round =>
                obtain ⟨k, hk, rfl, hj⟩ := hrel
                have H := Lib.hid hj
                clear hj
                go_wp2
                · have ht := sign_yes (r := r) (k := k) (by assumption)
                  have hlt : (k : Int) < 17 := by assumption
                  go_ret
                  exact ⟨ret_int (by rw [classOf, hl, hd, hs, if_neg (by decide), if_neg (by decide), if_neg (by decide), if_pos ((signs_mem r).2 ⟨k, by omega, ht⟩)]), rfl⟩
                · have ht := sign_no (r := r) (k := k) (by assumption)
                  have hlt : (k : Int) < 17 := by assumption
                  go_round
                  case rel =>
                    refine ⟨k + 1, by omega, by go_num, fun j hj => ?_⟩
                    rcases Nat.lt_or_ge j k with h1 | h1
                    · exact H.out j h1
                    · obtain rfl : j = k := by omega
                      exact ht
                  case measure => simp [intOf]; omega
                · have hge : 17 ≤ (k : Int) := by assumption
                  go_ret
                  refine ⟨ret_int ?_, rfl⟩
                  rw [classOf, hl, hd, hs, if_neg (by decide), if_neg (by decide), if_neg (by decide), if_neg]
                  intro h
                  obtain ⟨j, hj, h⟩ := (signs_mem r).1 h
                  exact H.out j (by omega) h

end Go.Proofs.YtcccnnfmhdogoaaDoor
end

section
/-
  'runes.Each', the runes of a text up to the first byte that begins none: what it computes.
-/
namespace Go.Proofs.YtcccnnfmhdogoaaDoor
open Go Go.RowKit
set_option linter.unusedVariables false

theorem hasPrefix_yes (s p : ByteArray) (w : World) (hs : s.size ≤ 100000) (hp : p.size ≤ 100000) :
    Calls Tryd.prog 37 #[.string s, .string p] w fun e w' => e = .returned (.bool (hasPre s p)) ∧ w = w' := by
  go_enter Tryd.func37, Tryd.ntmps37
  by_cases h : p.size ≤ s.size
  · go_wp2
    go_ret
    refine ⟨ret_bool ?_, rfl⟩
    unfold hasPre
    rw [ByteArray.toList_eq, ByteArray.toList_eq, ByteArray.data_extract, Array.toList_extract, Bool.eq_iff_iff, beq_iff_eq, List.isPrefixOf_iff_prefix, List.prefix_iff_eq_take]
    simp [List.extract]
    exact eq_comm
  · go_wp2
    go_ret
    refine ⟨ret_bool ?_, rfl⟩
    symm
    unfold hasPre
    rw [Bool.eq_false_iff]
    intro hh
    have := (List.isPrefixOf_iff_prefix.1 hh).length_le
    simp at this
    omega
theorem hasPrefix_any (s p : ByteArray) (w : World) (hs : s.size ≤ 100000) (hp : p.size ≤ 100000) :
    Calls Tryd.prog 24 #[.string s, .string p] w fun e w' => e = .returned (.bool (hasPre s p)) ∧ w = w' := by
  go_enter Tryd.func24, Tryd.ntmps24
  go_wp2_with (go_at_call 37; refine (hasPrefix_yes _ _ _ hs hp).mono ?_; rintro e w' ⟨rfl, rfl⟩)
  go_ret
  exact ⟨rfl, rfl⟩

theorem isOdd_any (s : ByteArray) (pos : Nat) (r : Int) (w : World) (hs : s.size ≤ 100000) (hp : pos < s.size) :
    Calls Tryd.prog 15 #[.string s, .int .i64 pos, .int .i32 r] w fun e w' => e = .returned (.bool (decide (r = 65533) && !(errPrefix s pos))) ∧ w = w' := by
  by_cases h : r = 65533
  · rw [decide_eq_true h, Bool.true_and]
    subst h
    go_enter Tryd.func15, Tryd.ntmps15
    go_wp2_with (go_at_call 24; refine (hasPrefix_any _ _ _ (by simp; omega) (by decide)).mono ?_; rintro e w' ⟨rfl, rfl⟩)
    all_goals
      go_ret
      refine ⟨ret_bool ?_, rfl⟩
      simp_all [errPrefix]
  · rw [decide_eq_false h, Bool.false_and]
    have hb : ((r == 65533) = false) := by simp [h]
    clear h
    go_enter Tryd.func15, Tryd.ntmps15
    go_wp2
    go_ret
    exact ⟨rfl, rfl⟩

theorem infoRune : (Tryd.prog.info? 26).map (fun i => (i.zero, i.size, i.bytes)) = some (some (.agg #[.int .i32 0, .int .i64 0]), 2, 16) := by kernel_rfl

def EachPost (s : ByteArray) (w : World) (e : Ending) (w' : World) : Prop :=
  ∃ v : Value, e = .returned (.tuple #[v, .int .i64 (badInt (each s).2)]) ∧ w'.ownsRow w.heap.size 26 2 v (each s).1.length (runeCells (each s).1) ∧ Below w.heap.size w w'

theorem isOdd_dec (s : ByteArray) (pos : Nat) (w : World) (hs : s.size ≤ 100000) (hp : pos < s.size) (b : Bool) (h : decide ((Utf8.decode s pos).1 = 65533 ∧ (Utf8.decode s pos).2 = 1) = b) :
    Calls Tryd.prog 15 #[.string s, .int .i64 pos, .int .i32 (Utf8.decode s pos).1] w fun e w' => e = .returned (.bool b) ∧ w = w' := by
  refine (isOdd_any s pos _ w hs hp).mono fun e w' => ?_
  rintro ⟨rfl, rfl⟩
  refine ⟨ret_bool ?_, rfl⟩
  rw [← h, ← odd_iff s pos hp]
  congr 1
  rw [decide_eq_decide]
  omega

theorem each_any (s : ByteArray) (w : World) (hs : s.size ≤ 100000) :
    Calls Tryd.prog 8 #[.string s] w (EachPost s w) := by
  obtain ⟨i0, hi, hz0, hz1, hz2⟩ := info_parts infoRune
  go_enter Tryd.func8, Tryd.ntmps8
  go_wp2
  go_loopw [2] (fun v wr => ∃ (p f : Nat) (acc : List (Nat × Nat)), wr.heap[w.heap.size]? = some (.stringIter s p) ∧ s.size ≤ p + f ∧ acc.length ≤ p ∧ p ≤ s.size ∧
      acc ++ (eachGo s f p).1 = (each s).1 ∧ (eachGo s f p).2 = (each s).2 ∧
      wr.ownsRow (w.heap.size + 1) 26 2 v acc.length (runeCells acc) ∧ Below w.heap.size w wr ∧ w.heap.size + 1 ≤ wr.heap.size)
    (fun _ wr => s.size - wr.iterPos w.heap.size)
  case atStart =>
    exact ⟨0, s.size, [], World.iter_heap w s 0, by omega, by simp, by omega, rfl, rfl, World.ownsRow_nil _ _ _ _, (Below.refl _ _).alloc (Nat.le_refl _) _, by simp [World.iter]⟩
  case round =>
    obtain ⟨p, f, acc, hit, hf, hacc, hp, h1, h2, hown, hb, hsz⟩ := hrel
    have H1 := Lib.hid h1
    have H2 := Lib.hid h2
    clear h1 h2
    by_cases hlt : p < s.size
    · have hn := fun ty => Lib.run_next_any_at (P := Tryd.prog) _ _ s p ty hit hlt
      obtain ⟨f, rfl⟩ : ∃ f', f = f' + 1 := ⟨f - 1, by omega⟩
      by_cases ho : (Utf8.decode s p).1 = 65533 ∧ (Utf8.decode s p).2 = 1
      · have HO := Lib.hid ho
        clear ho
        go_wp2_with (go_at_call 15; refine (isOdd_dec _ _ _ hs hlt true (decide_eq_true HO.out)).mono ?_; rintro e w' ⟨rfl, rfl⟩)
        go_ret2
        rw [eachGo_odd s f p hlt HO.out] at H1 H2
        exact ⟨u2, by rw [← H2.out]; rfl, by rw [← H1.out]; simpa using own_weaken (ownsRow_iterAt hown (by omega) _ _) (Nat.le_succ _), Lib.below_iterAt hb (Nat.le_refl _) _ _⟩
      · have HO := Lib.hid ho
        clear ho
        have hw := dec_width s p hlt
        have hsz' : w.heap.size + 1 ≤ (wr.iterAt w.heap.size s (p + (Utf8.decode s p).2)).heap.size := by rw [Lib.iterAt_size]; exact hsz
        have hb' := Lib.below_iterAt hb (Nat.le_refl _) s (p + (Utf8.decode s p).2)
        have hit' := Lib.iterAt_heap wr _ s p (p + (Utf8.decode s p).2) hit
        have hown' := ownsRow_iterAt hown (Nat.lt_succ_self _) s (p + (Utf8.decode s p).2)
        have HI := Lib.hid hit'
        clear hit'
        go_wp2_with (first
          | (go_at_call 15; refine (isOdd_dec _ _ _ hs hlt false (decide_eq_false HO.out)).mono ?_; rintro e w' ⟨rfl, rfl⟩)
          | (at_builtin; refine wpList_append_own _ rfl _ _ 22 rfl (w.heap.size + 1) 26 i0 _ 2 16 Tryd.underlying22 hi hz0 hz1 hz2 rfl (by decide) _ _ _ rfl (hown'.alloc _) ⟨(wr.iterAt w.heap.size s (p + (Utf8.decode s p).2)).heap.size, 0, none⟩ 1 1 [.int .i32 (Utf8.decode s p).1, .int .i64 p] rfl rfl ?c1 ?c2 ?c3 ?c4 ?c5 ?_))
        case c1 => exact cells_new _ _ _ _ rfl
        case c2 => intro u hu; simp at hu; rcases hu with rfl | rfl <;> rfl
        case c3 => unfold maxLen; omega
        case c4 => omega
        case c5 => simp; omega
        intro v' w1 hown1 hgrow1 _
        have hbA := below_own ((hb'.alloc (by omega) _)) (hown'.alloc _) hgrow1 (Nat.le_succ _) (by simp; omega)
        have hitA := (grown_other (hown'.alloc _) hgrow1 (Nat.lt_succ_self _) (by simp; omega)).trans ((alloc_keep _ _ (Nat.lt_of_succ_le hsz')).trans HI.out)
        have hszA := hgrow1.size
        go_wp2
        go_roundw
        case rel =>
          refine ⟨p + (Utf8.decode s p).2, f, acc ++ [((Utf8.decode s p).1, p)], hitA, by omega, by simp; omega, by omega, ?_, ?_, ?_, hbA, ?_⟩
          · rw [← H1.out, eachGo_step s f p hlt HO.out]; simp
          · rw [← H2.out, eachGo_step s f p hlt HO.out]
          · rw [← runeCells_snoc]; simpa using hown1
          · simp at hszA; omega
        case measure => rw [iterPos_of hitA, iterPos_of hit]; omega
    · have hn := fun ty => Lib.run_next_end_at (P := Tryd.prog) _ _ s p ty hit hlt
      go_wp2
      go_ret2
      rw [eachGo_end s f p hlt] at H1 H2
      exact ⟨u2, by rw [← H2.out]; rfl, by rw [← H1.out]; simpa using own_weaken hown (Nat.le_succ _), hb⟩

end Go.Proofs.YtcccnnfmhdogoaaDoor
end

section
/-
  Plain laws on the runes of a text: their places, their classes, blanks, names, numbers, signs. No program here.
-/
namespace Go.Proofs.YtcccnnfmhdogoaaDoor
open Go
set_option linter.unusedVariables false

/-- The class of rune n of a row; -1 behind its end. -/
def classAt (L : List (Nat × Nat)) (n : Nat) : Int := match L[n]? with
  | some x => classOf x.1
  | none => -1
/-- Where the runes end. -/
def finOf (s : ByteArray) (bad : Option Nat) : Nat := match bad with
  | some q => q
  | none => s.size
def placeIn (fin : Nat) (L : List (Nat × Nat)) (n : Nat) : Nat := match L[n]? with
  | some x => x.2
  | none => fin
def placeAt (s : ByteArray) (bad : Option Nat) (L : List (Nat × Nat)) (n : Nat) : Nat := placeIn (finOf s bad) L n

theorem runeCells_at (l : List (Nat × Nat)) (k : Nat) (h : k < l.length) :
    (runeCells l)[k * 2]? = some (.int .i32 (l[k]).1) ∧ (runeCells l)[k * 2 + 1]? = some (.int .i64 (l[k]).2) := by
  induction l generalizing k with
  | nil => simp at h
  | cons x l ih =>
    cases k with
    | zero => simp [runeCells]
    | succ k =>
      have := ih k (by simpa using h)
      simp only [runeCells, List.flatMap_cons, List.getElem_cons_succ] at this ⊢
      rw [List.getElem?_append_right (by simp; omega), List.getElem?_append_right (by simp; omega)]
      simp only [List.length_cons, List.length_nil]
      have e1 : (k + 1) * 2 - (0 + 1 + 1) = k * 2 := by omega
      have e2 : (k + 1) * 2 + 1 - (0 + 1 + 1) = k * 2 + 1 := by omega
      rw [e1, e2]
      exact this

/-- A row of runes that stand one behind the other in a text. -/
def Chain (s : ByteArray) (fin : Nat) : Nat → List (Nat × Nat) → Prop
  | p, [] => p = fin
  | p, (c, a) :: l => a = p ∧ p < s.size ∧ (Utf8.decode s p).1 = c ∧ ¬ ((Utf8.decode s p).1 = 65533 ∧ (Utf8.decode s p).2 = 1) ∧ Chain s fin (p + (Utf8.decode s p).2) l

theorem eachGo_chain (s : ByteArray) : ∀ f p, s.size ≤ p + f → p ≤ s.size → Chain s (finOf s (eachGo s f p).2) p (eachGo s f p).1 ∧ finOf s (eachGo s f p).2 ≤ s.size := by
  intro f
  induction f with
  | zero =>
    intro p hf hp
    have : p = s.size := by omega
    rw [eachGo_end s 0 p (by omega)]
    exact ⟨this, Nat.le_refl _⟩
  | succ f ih =>
    intro p hf hp
    by_cases hlt : p < s.size
    · by_cases ho : (Utf8.decode s p).1 = 65533 ∧ (Utf8.decode s p).2 = 1
      · rw [eachGo_odd s f p hlt ho]
        exact ⟨rfl, hp⟩
      · rw [eachGo_step s f p hlt ho]
        have hw := dec_width s p hlt
        have := ih (p + (Utf8.decode s p).2) (by omega) hw.2
        exact ⟨⟨rfl, hlt, rfl, ho, this.1⟩, this.2⟩
    · rw [eachGo_end s (f + 1) p hlt]
      exact ⟨(by omega : p = s.size), Nat.le_refl _⟩
theorem each_chain (s : ByteArray) : Chain s (finOf s (each s).2) 0 (each s).1 ∧ finOf s (each s).2 ≤ s.size := eachGo_chain s s.size 0 (by omega) (by omega)

theorem chain_le (s : ByteArray) (fin : Nat) : ∀ l p, Chain s fin p l → p ≤ fin := by
  intro l
  induction l with
  | nil => intro p h; exact Nat.le_of_eq h
  | cons x l ih =>
    intro p h
    obtain ⟨c, a⟩ := x
    have := ih _ h.2.2.2.2
    omega
theorem placeIn_zero (s : ByteArray) (fin p : Nat) (l : List (Nat × Nat)) (h : Chain s fin p l) : placeIn fin l 0 = p := by
  cases l with
  | nil => exact h.symm
  | cons x l => obtain ⟨c, a⟩ := x; exact h.1
theorem placeIn_drop (fin : Nat) (l : List (Nat × Nat)) (n m : Nat) : placeIn fin (l.drop n) m = placeIn fin l (n + m) := by
  simp [placeIn]
theorem chain_drop (s : ByteArray) (fin : Nat) : ∀ (n : Nat) (l : List (Nat × Nat)) (p : Nat), Chain s fin p l → Chain s fin (placeIn fin l n) (l.drop n) := by
  intro n
  induction n with
  | zero => intro l p h; rw [placeIn_zero s fin p l h]; exact h
  | succ n ih =>
    intro l p h
    cases l with
    | nil => exact (rfl : placeIn fin [] (n + 1) = fin)
    | cons x l =>
      obtain ⟨c, a⟩ := x
      exact ih l _ h.2.2.2.2
theorem place_mono (s : ByteArray) (fin p : Nat) (l : List (Nat × Nat)) (h : Chain s fin p l) (n m : Nat) (hnm : n ≤ m) : placeIn fin l n ≤ placeIn fin l m ∧ placeIn fin l m ≤ fin := by
  have hm := chain_le s fin _ _ (chain_drop s fin m l p h)
  refine ⟨?_, hm⟩
  obtain ⟨d, rfl⟩ : ∃ d, m = n + d := ⟨m - n, by omega⟩
  rw [← placeIn_drop]
  have hc := chain_drop s fin n l p h
  generalize l.drop n = r at *
  generalize placeIn fin l n = q at *
  clear hm h hnm
  induction d generalizing r q with
  | zero => rw [placeIn_zero s fin q r hc]; exact Nat.le_refl _
  | succ d ih =>
    cases r with
    | nil => exact Nat.le_of_eq hc
    | cons x r =>
      obtain ⟨c, a⟩ := x
      have := ih r _ hc.2.2.2.2
      simp only [placeIn, List.getElem?_cons_succ] at this ⊢
      omega
theorem placeAt_mono (s : ByteArray) (n m : Nat) (hnm : n ≤ m) : placeAt s (each s).2 (each s).1 n ≤ placeAt s (each s).2 (each s).1 m ∧ placeAt s (each s).2 (each s).1 m ≤ s.size := by
  have h := each_chain s
  have := place_mono s _ 0 _ h.1 n m hnm
  exact ⟨this.1, Nat.le_trans this.2 h.2⟩

/-- Where the runes end, the text ends or a byte begins no rune. -/
theorem eachGo_fin (s : ByteArray) : ∀ f p, s.size ≤ p + f → p ≤ s.size →
    finOf s (eachGo s f p).2 = s.size ∨ (finOf s (eachGo s f p).2 < s.size ∧ (Utf8.decode s (finOf s (eachGo s f p).2)).1 = 65533 ∧ (Utf8.decode s (finOf s (eachGo s f p).2)).2 = 1) := by
  intro f
  induction f with
  | zero => intro p hf hp; exact .inl rfl
  | succ f ih =>
    intro p hf hp
    by_cases hlt : p < s.size
    · by_cases ho : (Utf8.decode s p).1 = 65533 ∧ (Utf8.decode s p).2 = 1
      · rw [eachGo_odd s f p hlt ho]
        exact .inr ⟨hlt, ho⟩
      · rw [eachGo_step s f p hlt ho]
        have hw := dec_width s p hlt
        exact ih (p + (Utf8.decode s p).2) (by omega) hw.2
    · rw [eachGo_end s (f + 1) p hlt]
      exact .inl rfl
theorem each_fin (s : ByteArray) : finOf s (each s).2 = s.size ∨ (finOf s (each s).2 < s.size ∧ (Utf8.decode s (finOf s (each s).2)).1 = 65533 ∧ (Utf8.decode s (finOf s (each s).2)).2 = 1) :=
  eachGo_fin s s.size 0 (by omega) (by omega)

/-- Do runes begin with these bytes? -/
def fitsR : List (Nat × Nat) → List UInt8 → Bool
  | _, [] => true
  | [], _ :: _ => false
  | (c, _) :: r, b :: l => decide (c = b.toNat) && fitsR r l
theorem fitsR_le : ∀ (l : List UInt8) (r : List (Nat × Nat)), fitsR r l = true → l.length ≤ r.length := by
  intro l
  induction l with
  | nil => intro r h; simp
  | cons b l ih =>
    intro r h
    cases r with
    | nil => simp [fitsR] at h
    | cons x r =>
      obtain ⟨c, a⟩ := x
      simp only [fitsR, Bool.and_eq_true] at h
      have := ih r h.2
      simp; omega

theorem decode_byte (s : ByteArray) (p : Nat) (h : p < s.size) (hb : (s.get! p).toNat < 128) : Utf8.decode s p = ((s.get! p).toNat, 1) := by
  rw [Lib.decode_at]
  generalize (s.get! p).toNat = b0 at *
  simp [Lib.decodeN, hb]
theorem decode_low (s : ByteArray) (p : Nat) (h : p < s.size) (hc : (Utf8.decode s p).1 < 128) : (s.get! p).toNat < 128 := by
  rcases Nat.lt_or_ge (s.get! p).toNat 128 with hb | hb
  · exact hb
  · have := (decode_high s p h (by
      have e : s[p]'h = s.get! p := by
        have := get_at s p h
        simpa using this.symm
      rw [e]; exact hb)).1
    omega

theorem drop_get (s : ByteArray) (p : Nat) (h : p < s.size) : s.data.toList.drop p = s.get! p :: s.data.toList.drop (p + 1) := by
  rw [get_eq s p h, List.drop_eq_getElem_cons (by simpa using h)]
theorem hasPre_eq (s q : ByteArray) (p : Nat) (h : p ≤ s.size) : hasPre (s.extract p s.size) q = List.isPrefixOf q.data.toList (s.data.toList.drop p) := by
  unfold hasPre
  congr 1
  rw [ByteArray.data_extract, Array.toList_extract]
  simp only [List.extract]
  exact List.take_of_length_le (by simp)

/-- A text goes on with plain bytes just if its runes do. -/
theorem pre_fits (s : ByteArray) (fin : Nat) (hfin : fin = s.size ∨ (fin < s.size ∧ (Utf8.decode s fin).1 = 65533 ∧ (Utf8.decode s fin).2 = 1)) :
    ∀ (l : List UInt8), (∀ b ∈ l, b.toNat < 128) → ∀ (r : List (Nat × Nat)) (p : Nat), Chain s fin p r → p ≤ s.size → List.isPrefixOf l (s.data.toList.drop p) = fitsR r l := by
  intro l
  induction l with
  | nil => intro hl r p hc hp; cases r <;> simp [fitsR]
  | cons b l ih =>
    intro hl r p hc hp
    have hb := hl b (by simp)
    have hl' : ∀ c ∈ l, c.toNat < 128 := fun c hcm => hl c (by simp [hcm])
    by_cases hlt : p < s.size
    · rw [drop_get s p hlt]
      simp only [List.isPrefixOf]
      cases r with
      | nil =>
        have hpf : p = fin := hc
        rcases hfin with h | ⟨h1, h2, h3⟩
        · omega
        · subst hpf
          have : (b == s.get! p) = false := by
            rw [beq_eq_false_iff_ne]
            rintro rfl
            have := decode_byte s p hlt hb
            rw [this] at h2
            simp at h2
            omega
          rw [this]
          rfl
      | cons x r =>
        obtain ⟨c, a⟩ := x
        obtain ⟨_, _, hcc, hno, hch⟩ := hc
        simp only [fitsR]
        by_cases he : b = s.get! p
        · subst he
          have hd := decode_byte s p hlt hb
          rw [hd] at hcc hch
          have : c = (s.get! p).toNat := hcc.symm
          rw [decide_eq_true this, ih hl' r (p + 1) hch (by omega)]
          simp
        · have hne : ¬ c = b.toNat := by
            intro e
            apply he
            have hlow := decode_low s p hlt (by omega)
            have hd := decode_byte s p hlt hlow
            rw [hd] at hcc
            have : b.toNat = (s.get! p).toNat := by omega
            exact UInt8.toNat_inj.1 this
          rw [decide_eq_false hne, show (b == s.get! p) = false by rw [beq_eq_false_iff_ne]; exact he]
          rfl
    · have hnil : s.data.toList.drop p = [] := List.drop_eq_nil_of_le (by simp; omega)
      rw [hnil]
      cases r with
      | nil => rfl
      | cons x r => obtain ⟨c, a⟩ := x; exact absurd hc.2.1 hlt

end Go.Proofs.YtcccnnfmhdogoaaDoor
end

section
/-
  The lexer of 'lex': its state in memory; 'class' and 'at'.
-/
namespace Go.Proofs.YtcccnnfmhdogoaaDoor
open Go Go.RowKit
set_option linter.unusedVariables false

/-- The lexer lies in block g: its text, its runes, the bad byte, how many runes were read. -/
structure LexAt (w : World) (g : Nat) (s : ByteArray) (A : Option Addr) (cap : Nat) (L : List (Nat × Nat)) (bad : Option Nat) (n : Nat) : Prop where
  blk : w.heap[g]? = some (.cells #[.string s, .slice A L.length cap, .int .i64 (badInt bad), .int .i64 n] 47 (0, 0))
  cap_le : L.length ≤ cap
  cap_max : cap ≤ maxLen
  few : L.length ≤ 100000
  le : n ≤ L.length
  size : s.size ≤ 100000
  run : L = (each s).1 ∧ bad = (each s).2
  row : 0 < L.length → ∃ h, A = some ⟨h, 0, none⟩ ∧ h ≠ g ∧ h < w.heap.size ∧ ∀ j, j < L.length * 2 → w.cell? ⟨h, j, none⟩ = (runeCells L)[j]?

section
variable {w w' : World} {g : Nat} {s : ByteArray} {A : Option Addr} {cap : Nat} {L : List (Nat × Nat)} {bad : Option Nat} {n : Nat}
theorem LexAt.lt (h : LexAt w g s A cap L bad n) : g < w.heap.size := (Array.getElem?_eq_some_iff.1 h.blk).1
theorem LexAt.c0 (h : LexAt w g s A cap L bad n) : w.cell? ⟨g, 0, none⟩ = some (.string s) := cell_of_row w g 0 _ _ _ h.blk
theorem LexAt.c1 (h : LexAt w g s A cap L bad n) : w.cell? ⟨g, 1, none⟩ = some (.slice A L.length cap) := cell_of_row w g 1 _ _ _ h.blk
theorem LexAt.c2 (h : LexAt w g s A cap L bad n) : w.cell? ⟨g, 2, none⟩ = some (.int .i64 (badInt bad)) := cell_of_row w g 2 _ _ _ h.blk
theorem LexAt.c3 (h : LexAt w g s A cap L bad n) : w.cell? ⟨g, 3, none⟩ = some (.int .i64 n) := cell_of_row w g 3 _ _ _ h.blk
theorem LexAt.fz (h : LexAt w g s A cap L bad n) (o : Nat) : w.frozen? ⟨g, o, none⟩ = false := by simp [World.frozen?, h.blk]
theorem LexAt.drewN (h : LexAt w g s A cap L bad n) (q : Nat) : LexAt (w.drewN q) g s A cap L bad n := ⟨h.blk, h.cap_le, h.cap_max, h.few, h.le, h.size, h.run, h.row⟩
theorem LexAt.drew (h : LexAt w g s A cap L bad n) : LexAt w.drew g s A cap L bad n := h.drewN 1
/-- The lexer, where more may lie and its block holds another count. -/
theorem LexAt.next (h : LexAt w g s A cap L bad n) (hg : w.grownBy w' (some g)) {n' : Nat} (hn : n' ≤ L.length)
    (hb : w'.heap[g]? = some (.cells #[.string s, .slice A L.length cap, .int .i64 (badInt bad), .int .i64 n'] 47 (0, 0))) : LexAt w' g s A cap L bad n' :=
  ⟨hb, h.cap_le, h.cap_max, h.few, hn, h.size, h.run, fun hl => by
    obtain ⟨k, e, hk, hlt, hc⟩ := h.row hl
    exact ⟨k, e, hk, Nat.lt_of_lt_of_le hlt hg.size, fun j hj => (World.cell?_of_block (a := ⟨k, j, none⟩) (hg.block k hlt (by simpa using hk))).trans (hc j hj)⟩⟩
theorem LexAt.kept (h : LexAt w g s A cap L bad n) (hb : Below w.heap.size w w') : LexAt w' g s A cap L bad n :=
  ⟨(hb.block g h.lt).trans h.blk, h.cap_le, h.cap_max, h.few, h.le, h.size, h.run, fun hl => by
    obtain ⟨k, e, hk, hlt, hc⟩ := h.row hl
    exact ⟨k, e, hk, Nat.lt_of_lt_of_le hlt hb.size, fun j hj => (hb.cell (p := ⟨k, j, none⟩) hlt).trans (hc j hj)⟩⟩
theorem LexAt.alloc (h : LexAt w g s A cap L bad n) (o : Obj) : LexAt (w.alloc o) g s A cap L bad n := h.kept ((Below.refl _ _).alloc (Nat.le_refl _) _)
theorem LexAt.setNew (h : LexAt w g s A cap L bad n) {W : World} (hW : LexAt W g s A cap L bad n) {p : Addr} (hp : w.heap.size ≤ p.block) (hb : Below w.heap.size w W) (u : Value) : LexAt (W.setCell p u) g s A cap L bad n :=
  h.kept (hb.setCell hp u)
theorem LexAt.put (h : LexAt w g s A cap L bad n) {n' : Nat} (hn : n' ≤ L.length) : LexAt (w.setCell ⟨g, 3, none⟩ (.int .i64 n')) g s A cap L bad n' :=
  h.next (gb_setCell (World.grownBy.refl _ _) _ _) hn (heap_put h.blk 3 _)
theorem LexAt.adv (h : LexAt w g s A cap L bad n) (hgb : w.grownBy w' (some g)) {k : Nat} (hk : k + 1 ≤ L.length)
    (hb : w'.heap[g]? = some (.cells #[.string s, .slice A L.length cap, .int .i64 (badInt bad), .int .i64 k] 47 (0, 0))) :
    LexAt (w'.setCell ⟨g, 3, none⟩ (.int .i64 ((k : Int) + 1))) g s A cap L bad (k + 1) := by
  have h1 : LexAt w' g s A cap L bad k := h.next hgb (by omega) hb
  have := h1.put hk
  simpa using this
/-- The rune that is next, in memory. -/
theorem LexAt.rune (h : LexAt w g s A cap L bad n) (hn : n < L.length) :
    ∃ k, A = some ⟨k, 0, none⟩ ∧ k < w.heap.size ∧ w.cell? ⟨k, n * 2, none⟩ = some (.int .i32 (L[n]).1) ∧ w.cell? ⟨k, n * 2 + 1, none⟩ = some (.int .i64 (L[n]).2) := by
  obtain ⟨k, e, hk, hlt, hc⟩ := h.row (by omega)
  exact ⟨k, e, hlt, (hc _ (by omega)).trans (runeCells_at L n hn).1, (hc _ (by omega)).trans (runeCells_at L n hn).2⟩
end

def Quiet (v : Value) (w : World) (e : Ending) (w' : World) : Prop := e = .returned v ∧ ∃ m, w' = w.drewN m

theorem class_at (w : World) (g : Nat) (s : ByteArray) (A : Option Addr) (cap : Nat) (L : List (Nat × Nat)) (bad : Option Nat) (n : Nat) (h : LexAt w g s A cap L bad n) :
    Calls Tryd.prog 27 #[.pointer (some ⟨g, 0, none⟩)] w (Quiet (.int .i64 (classAt L n)) w) := by
  have c1 := h.c1
  have c3 := h.c3
  have hcl := h.cap_le
  have hfew := h.few
  have hle := h.le
  by_cases hn : n < L.length
  · obtain ⟨k, rfl, hk, e1, e2⟩ := h.rune hn
    have hcls : classAt L n = classOf (L[n]).1 := by simp [classAt, hn]
    rw [hcls]
    clear hcls e2 hle
    generalize ((L[n]'hn).1 : Int) = r at *
    generalize L.length = N at *
    go_enter Tryd.func27, Tryd.ntmps27
    go_wp2_with fail
    go_quiet (fail)
    go_wp2_with fail
    go_quiet ((go_at_call 17; first | exact quiet_add (quiet_same (class_any _ _)) | exact quiet_add2 (quiet_same (class_any _ _))))
    go_wp2
    go_ret
    exact ⟨rfl, _, by first | rfl | exact World.drewN_drewN _ _ _⟩
  · have hcls : classAt L n = -1 := by simp [classAt, hn]
    rw [hcls]
    have hnn : L.length ≤ n := by omega
    clear hcls hle
    generalize L.length = N at *
    go_enter Tryd.func27, Tryd.ntmps27
    go_wp2_with fail
    go_quiet (fail)
    go_wp2
    go_ret
    exact ⟨rfl, _, by first | rfl | exact World.drewN_drewN _ _ _⟩

theorem at_at (w : World) (g : Nat) (s : ByteArray) (A : Option Addr) (cap : Nat) (L : List (Nat × Nat)) (bad : Option Nat) (n : Nat) (h : LexAt w g s A cap L bad n) :
    Calls Tryd.prog 19 #[.pointer (some ⟨g, 0, none⟩)] w (Quiet (.int .i64 (placeAt s bad L n)) w) := by
  have c0 := h.c0
  have c1 := h.c1
  have c2 := h.c2
  have c3 := h.c3
  have hcl := h.cap_le
  have hfew := h.few
  have hle := h.le
  have hss := h.size
  by_cases hn : n < L.length
  · obtain ⟨k, rfl, hk, e1, e2⟩ := h.rune hn
    have hcls : placeAt s bad L n = (L[n]).2 := by simp [placeAt, placeIn, hn]
    rw [hcls]
    clear hcls e1 hle
    generalize ((L[n]'hn).2 : Int) = r at *
    generalize L.length = N at *
    go_enter Tryd.func19, Tryd.ntmps19
    go_wp2_with fail
    go_quiet (fail)
    go_wp2_with fail
    go_quiet (fail)
    go_wp2
    go_ret
    exact ⟨rfl, _, by first | rfl | exact World.drewN_drewN _ _ _⟩
  · have hcls : placeAt s bad L n = finOf s bad := by simp [placeAt, placeIn, hn]
    rw [hcls]
    have hnn : L.length ≤ n := by omega
    clear hcls hle
    generalize L.length = N at *
    cases bad with
    | none =>
      have hb : badInt none < 0 := by decide
      go_enter Tryd.func19, Tryd.ntmps19
      go_wp2_with fail
      go_quiet (fail)
      go_wp2
      go_ret
      exact ⟨rfl, _, by first | rfl | exact World.drewN_drewN _ _ _⟩
    | some q =>
      have hb : 0 ≤ badInt (some q) := by simp [badInt]
      go_enter Tryd.func19, Tryd.ntmps19
      go_wp2_with fail
      go_quiet (fail)
      go_wp2
      go_ret
      exact ⟨rfl, _, by first | rfl | exact World.drewN_drewN _ _ _⟩

end Go.Proofs.YtcccnnfmhdogoaaDoor
end

section
/-
  The lexer of 'lex': 'isMore', 'skips', 'length', 'blank'.
-/
namespace Go.Proofs.YtcccnnfmhdogoaaDoor
open Go Go.RowKit
set_option linter.unusedVariables false

/-- Does a rune go on with a name? -/
def moreB (r : Int) : Bool := letterB r || digitB r || decide (r = 39)
def moreAt (L : List (Nat × Nat)) (n : Nat) : Bool := match L[n]? with
  | some x => moreB x.1
  | none => false

theorem classOf_letter {r : Int} (h : letterB r = true) : classOf r = 1 := by simp [classOf, h]
theorem classOf_digit {r : Int} (h1 : letterB r = false) (h : digitB r = true) : classOf r = 2 := by simp [classOf, h1, h]
theorem classOf_39 : classOf 39 = 4 := by decide +kernel
theorem classOf_more {r : Int} : (classOf r = 1 ∨ classOf r = 2 ∨ (classOf r = 4 ∧ r = 39)) ↔ moreB r = true := by
  unfold moreB
  by_cases h1 : letterB r = true
  · simp [classOf_letter h1, h1]
  · have h1 : letterB r = false := by simpa using h1
    by_cases h2 : digitB r = true
    · simp [classOf_digit h1 h2, h2]
    · have h2 : digitB r = false := by simpa using h2
      have hc : classOf r ≠ 1 ∧ classOf r ≠ 2 := by
        unfold classOf
        rw [h1, h2]
        simp only [Bool.false_eq_true, if_false]
        repeat' split
        all_goals decide
      simp only [h1, h2, Bool.or_false, Bool.false_or, decide_eq_true_eq]
      constructor
      · rintro (h | h | h)
        · exact absurd h hc.1
        · exact absurd h hc.2
        · exact h.2
      · rintro rfl
        exact .inr (.inr ⟨classOf_39, rfl⟩)

theorem isMore_at (w : World) (g : Nat) (s : ByteArray) (A : Option Addr) (cap : Nat) (L : List (Nat × Nat)) (bad : Option Nat) (n : Nat) (h : LexAt w g s A cap L bad n) :
    Calls Tryd.prog 38 #[.pointer (some ⟨g, 0, none⟩)] w (Quiet (.bool (moreAt L n)) w) := by
  have c1 := h.c1
  have c3 := h.c3
  have hcl := h.cap_le
  have hfew := h.few
  have hle := h.le
  by_cases hn : n < L.length
  · obtain ⟨k, rfl, hk, e1, e2⟩ := h.rune hn
    have hcls : classAt L n = classOf (L[n]).1 := by simp [classAt, hn]
    have hm : moreAt L n = moreB (L[n]).1 := by simp [moreAt, hn]
    rw [hm]
    have hcc := classOf_more (r := ((L[n]).1 : Int))
    have hC := class_at w g s _ cap L bad n h
    rw [hcls] at hC
    clear hcls hm e2 hle
    generalize ((L[n]'hn).1 : Int) = r at *
    have HC := Lib.hid hC
    have HCC := Lib.hid hcc
    clear hC hcc
    generalize hc : classOf r = c at *
    have HH := Lib.hid hc
    clear hc
    generalize hL : L.length = N at *
    clear hL
    by_cases q1 : c = 1
    · have t1 : (c == 1) = true := by simp [q1]
      have hb : moreB r = true := HCC.out.1 (.inl q1)
      rw [hb]
      clear q1 hb
      go_enter Tryd.func38, Tryd.ntmps38
      go_wp2_with fail
      refine HC.out.mono ?_
      rintro e w1 ⟨rfl, m, rfl⟩
      go_wp2_with fail
      go_quiet (fail)
      go_wp2
      go_ret
      exact ⟨rfl, _, by first | rfl | exact World.drewN_drewN _ _ _⟩
    · have t1 : (c == 1) = false := by simp [q1]
      by_cases q2 : c = 2
      · have t2 : (c == 2) = true := by simp [q2]
        have hb : moreB r = true := HCC.out.1 (.inr (.inl q2))
        rw [hb]
        clear q1 q2 hb
        go_enter Tryd.func38, Tryd.ntmps38
        go_wp2_with fail
        refine HC.out.mono ?_
        rintro e w1 ⟨rfl, m, rfl⟩
        go_wp2_with fail
        go_quiet (fail)
        go_wp2
        go_ret
        exact ⟨rfl, _, by first | rfl | exact World.drewN_drewN _ _ _⟩
      · have t2 : (c == 2) = false := by simp [q2]
        by_cases q4 : c = 4
        · have t4 : (c == 4) = true := by simp [q4]
          have hb : moreB r = (r == 39) := by
            rw [Bool.eq_iff_iff, ← HCC.out]
            simp [q4]
          rw [hb]
          clear q1 q2 q4 hb
          go_enter Tryd.func38, Tryd.ntmps38
          go_wp2_with fail
          refine HC.out.mono ?_
          rintro e w1 ⟨rfl, m, rfl⟩
          go_wp2_with fail
          go_quiet (fail)
          go_wp2
          go_ret
          exact ⟨rfl, _, by first | rfl | exact World.drewN_drewN _ _ _⟩
        · have t4 : (c == 4) = false := by simp [q4]
          have hb : moreB r = false := by
            rw [Bool.eq_false_iff]
            intro hb
            rcases HCC.out.2 hb with h | h | h
            · exact q1 h
            · exact q2 h
            · exact q4 h.1
          rw [hb]
          clear q1 q2 q4 hb
          go_enter Tryd.func38, Tryd.ntmps38
          go_wp2_with fail
          refine HC.out.mono ?_
          rintro e w1 ⟨rfl, m, rfl⟩
          go_wp2_with fail
          go_quiet (fail)
          go_wp2
          go_ret
          exact ⟨rfl, _, by first | rfl | exact World.drewN_drewN _ _ _⟩
  · have hcls : classAt L n = -1 := by simp [classAt, hn]
    have hm : moreAt L n = false := by simp [moreAt, hn]
    rw [hm]
    have hC := class_at w g s _ cap L bad n h
    rw [hcls] at hC
    have HC := Lib.hid hC
    clear hC hcls hm
    go_enter Tryd.func38, Tryd.ntmps38
    go_wp2_with fail
    refine HC.out.mono ?_
    rintro e w1 ⟨rfl, m, rfl⟩
    go_wp2_with fail
    go_quiet (fail)
    go_wp2
    go_ret
    exact ⟨rfl, _, by first | rfl | exact World.drewN_drewN _ _ _⟩

/-- How many runes a blank is: spaces and comments (true: within a comment). -/
def blankGo : Bool → List (Nat × Nat) → Nat
  | _, [] => 0
  | true, (c, _) :: r => if c = 10 then blankGo false r + 1 else blankGo true r + 1
  | false, (c, _) :: r => if spaceB c then blankGo false r + 1 else if c = 35 then blankGo true r + 1 else 0
/-- How many runes stand ahead of the next line feed. -/
def commentGo : List (Nat × Nat) → Nat
  | [] => 0
  | (c, _) :: r => if c = 10 then 0 else commentGo r + 1
theorem blank_comment : ∀ r : List (Nat × Nat), blankGo true r = commentGo r + blankGo false (r.drop (commentGo r)) := by
  intro r
  induction r with
  | nil => rfl
  | cons x r ih =>
    obtain ⟨c, a⟩ := x
    by_cases h : c = 10
    · subst h
      rw [blankGo, commentGo, if_pos rfl, if_pos rfl, List.drop_zero, blankGo]
      rw [if_pos (by decide +kernel)]
      omega
    · rw [blankGo, commentGo, if_neg h, if_neg h, List.drop_succ_cons, ih]
      omega
theorem commentGo_le : ∀ r : List (Nat × Nat), commentGo r ≤ r.length := by
  intro r
  induction r with
  | nil => simp [commentGo]
  | cons x r ih =>
    obtain ⟨c, a⟩ := x
    rw [commentGo]
    split
    · omega
    · simp; omega
theorem drop_at (L : List (Nat × Nat)) (n : Nat) (h : n < L.length) : L.drop n = (L[n].1, L[n].2) :: L.drop (n + 1) := by
  rw [List.drop_eq_getElem_cons h]

/-- The lexer has read on to rune n'. -/
def Moved (w : World) (g : Nat) (s : ByteArray) (A : Option Addr) (cap : Nat) (L : List (Nat × Nat)) (bad : Option Nat) (n' : Nat) (e : Ending) (w' : World) : Prop :=
  e = .returned (.tuple #[]) ∧ w.grownBy w' (some g) ∧ LexAt w' g s A cap L bad n'

theorem skips_at (w : World) (g : Nat) (s : ByteArray) (A : Option Addr) (cap : Nat) (L : List (Nat × Nat)) (bad : Option Nat) (n : Nat) (h : LexAt w g s A cap L bad n) :
    Calls Tryd.prog 28 #[.pointer (some ⟨g, 0, none⟩)] w (Moved w g s A cap L bad (n + commentGo (L.drop n))) := by
  go_enter Tryd.func28, Tryd.ntmps28
  go_wp2_with fail
  go_loopg [] (L.length - n) (fun m wr => ∃ k : Nat, m = L.length - k ∧ k ≤ L.length ∧ LexAt wr g s A cap L bad k ∧ w.grownBy wr (some g) ∧ k + commentGo (L.drop k) = n + commentGo (L.drop n))
  case atStart => exact ⟨n, rfl, h.le, h, World.grownBy.refl _ _, rfl⟩
  case round =>
    obtain ⟨k, rfl, hk, hx, hgb, hcount⟩ := hrel
    have c1 := hx.c1
    have c3 := hx.c3
    have hcl := hx.cap_le
    have hfew := hx.few
    have HX := Lib.hid hx
    have HCO := Lib.hid hcount
    have hf := hx.fz 3
    clear hx hcount h
    by_cases hn : k < L.length
    · obtain ⟨j, rfl, hj, e1, e2⟩ := HX.out.rune hn
      have hd := Lib.hid (drop_at L k hn)
      clear e2
      by_cases h10 : (L[k]'hn).1 = 10
      · have hb : (((L[k]'hn).1 : Int) != 10) = false := by rw [h10]; rfl
        have H10 := Lib.hid h10
        clear h10
        generalize (((L[k]'hn).1 : Nat) : Int) = r at *
        go_wp2_with fail
        go_quiet (fail)
        go_wp2
        go_end0
        refine ⟨rfl, gb_drewN hgb _, ?_⟩
        have e : n + commentGo (L.drop n) = k := by
          rw [← HCO.out, hd.out, commentGo, if_pos H10.out]
          rfl
        rw [e]
        exact HX.out.drewN _
      · have hb : (((L[k]'hn).1 : Int) != 10) = true := by rw [bne_iff_ne]; omega
        have H10 := Lib.hid h10
        clear h10
        generalize (((L[k]'hn).1 : Nat) : Int) = r at *
        go_wp2_with fail
        go_quiet (fail)
        go_wp2
        go_roundg (L.length - (k + 1))
        case measure => omega
        case rel =>
          refine ⟨k + 1, rfl, hn, ?_, ?_, ?_⟩
          · have := (HX.out.drewN nq).put (n' := k + 1) hn
            simpa using this
          · have := gb_setCell (gb_drewN hgb nq) 3 (.int .i64 ((k : Int) + 1))
            simpa using this
          · rw [← HCO.out, hd.out, commentGo, if_neg H10.out]
            omega
    · go_wp2_with fail
      go_quiet (fail)
      go_wp2
      go_end0
      refine ⟨rfl, gb_drewN hgb _, ?_⟩
      have e : n + commentGo (L.drop n) = k := by
        rw [← HCO.out, List.drop_eq_nil_of_le (by omega)]
        rfl
      rw [e]
      exact HX.out.drewN _

theorem classOf_space {r : Int} : classOf r = 3 ↔ spaceB r = true := by
  unfold classOf
  constructor
  · intro h
    by_cases h1 : letterB r = true
    · simp [h1] at h
    · by_cases h2 : digitB r = true
      · simp [h1, h2] at h
      · by_cases h3 : spaceB r = true
        · exact h3
        · by_cases h4 : signB r = true <;> simp [h1, h2, h3, h4] at h
  · intro h
    have hr : r = 32 ∨ r = 9 ∨ r = 10 ∨ r = 13 := by simpa [spaceB] using h
    rcases hr with rfl | rfl | rfl | rfl <;> decide +kernel

theorem blank_at (w : World) (g : Nat) (s : ByteArray) (A : Option Addr) (cap : Nat) (L : List (Nat × Nat)) (bad : Option Nat) (n : Nat) (h : LexAt w g s A cap L bad n) :
    Calls Tryd.prog 18 #[.pointer (some ⟨g, 0, none⟩)] w (Moved w g s A cap L bad (n + blankGo false (L.drop n))) := by
  go_enter Tryd.func18, Tryd.ntmps18
  go_wp2_with fail
  go_loopg [] (L.length - n) (fun m wr => ∃ k : Nat, m = L.length - k ∧ k ≤ L.length ∧ LexAt wr g s A cap L bad k ∧ w.grownBy wr (some g) ∧ k + blankGo false (L.drop k) = n + blankGo false (L.drop n))
  case atStart => exact ⟨n, rfl, h.le, h, World.grownBy.refl _ _, rfl⟩
  case round =>
    obtain ⟨k, rfl, hk, hx, hgb, hcount⟩ := hrel
    have c1 := hx.c1
    have c3 := hx.c3
    have hcl := hx.cap_le
    have hfew := hx.few
    have HX := Lib.hid hx
    have HCO := Lib.hid hcount
    have hf := hx.fz 3
    clear hx hcount h
    by_cases hn : k < L.length
    · obtain ⟨j, rfl, hj, e1, e2⟩ := HX.out.rune hn
      have hd := Lib.hid (drop_at L k hn)
      have hcls : classAt L k = classOf (L[k]).1 := by simp [classAt, hn]
      have HCL := Lib.hid hcls
      clear e2 hcls
      by_cases hsp : spaceB ((L[k]'hn).1 : Int) = true
      · have h3 : classOf (L[k]).1 = 3 := classOf_space.2 hsp
        have hb : (classAt L k == 3) = true := by rw [HCL.out, h3]; rfl
        have HS := Lib.hid hsp
        clear hsp h3
        go_wp2_with fail
        go_quiet (fail)
        go_wp2_with fail
        refine (class_at _ g s _ cap L bad k (HX.out.drewN _)).mono ?_
        rintro e w1 ⟨rfl, m, rfl⟩
        go_wp2
        go_roundg (L.length - (k + 1))
        case measure => omega
        case rel =>
          refine ⟨k + 1, rfl, hn, ?_, ?_, ?_⟩
          · have := (HX.out.drewN (nq + m)).put (n' := k + 1) hn
            simpa using this
          · have := gb_setCell (gb_drewN hgb (nq + m)) 3 (.int .i64 ((k : Int) + 1))
            simpa using this
          · rw [← HCO.out, hd.out, blankGo, if_pos HS.out]
            omega
      · have hb : (classAt L k == 3) = false := by
          rw [HCL.out, beq_eq_false_iff_ne]
          exact fun h => hsp (classOf_space.1 h)
        have HS := Lib.hid hsp
        clear hsp
        by_cases h35 : (L[k]'hn).1 = 35
        · have hb2 : (((L[k]'hn).1 : Int) == 35) = true := by rw [h35]; rfl
          have H35 := Lib.hid h35
          clear h35
          have HS2 : Hid (spaceB ((L[k]'hn).1 : Int) = false) := Lib.hid (by simpa using HS.out)
          clear HS
          generalize hr : (((L[k]'hn).1 : Nat) : Int) = r at *
          have HR := Lib.hid hr
          clear hr
          go_wp2_with fail
          go_quiet (fail)
          go_wp2_with fail
          refine (class_at _ g s _ cap L bad k (HX.out.drewN _)).mono ?_
          rintro e w1 ⟨rfl, m, rfl⟩
          go_wp2_with fail
          go_quiet (fail)
          go_wp2_with fail
          refine (skips_at _ g s _ cap L bad k (by simpa using HX.out.drewN _)).mono ?_
          rintro e w1 ⟨rfl, hg1, hx1⟩
          have hc1 : commentGo (L.drop k) = commentGo (L.drop (k + 1)) + 1 := by rw [hd.out, commentGo, if_neg (by rw [H35.out]; decide)]
          have hc2 : blankGo false (L.drop k) = blankGo true (L.drop (k + 1)) + 1 := by
            rw [hd.out, blankGo, if_neg (by rw [HR.out, HS2.out]; decide), if_pos H35.out]
          have hc3 := blank_comment (L.drop (k + 1))
          rw [List.drop_drop] at hc3
          have hc4 : k + commentGo (L.drop k) ≤ L.length := hx1.le
          have HC := Lib.hid (show (k + commentGo (L.drop k)) + blankGo false (L.drop (k + commentGo (L.drop k))) = n + blankGo false (L.drop n) by
            rw [← HCO.out, hc2, hc3, hc1, show k + (commentGo (L.drop (k + 1)) + 1) = k + 1 + commentGo (L.drop (k + 1)) by omega]
            omega)
          have hc5 : k < k + commentGo (L.drop k) := by omega
          clear hc1 hc2 hc3
          generalize k + commentGo (L.drop k) = k2 at *
          go_wp2
          go_roundg (L.length - k2)
          case measure => omega
          case rel => exact ⟨k2, rfl, hc4, hx1, gb_trans (gb_drewN hgb _) hg1, HC.out⟩
        · have hb2 : (((L[k]'hn).1 : Int) == 35) = false := by simp; omega
          have H35 := Lib.hid h35
          clear h35
          have HS2 : Hid (spaceB ((L[k]'hn).1 : Int) = false) := Lib.hid (by simpa using HS.out)
          clear HS
          generalize hr : (((L[k]'hn).1 : Nat) : Int) = r at *
          have HR := Lib.hid hr
          clear hr
          go_wp2_with fail
          go_quiet (fail)
          go_wp2_with fail
          refine (class_at _ g s _ cap L bad k (HX.out.drewN _)).mono ?_
          rintro e w1 ⟨rfl, m, rfl⟩
          go_wp2_with fail
          go_quiet (fail)
          go_wp2
          refine bodyPost_ret (results_none rfl _ _ _) rfl ?_
          refine ⟨rfl, gb_drewN (gb_drewN hgb _) _, ?_⟩
          have e : n + blankGo false (L.drop n) = k := by
            rw [← HCO.out, hd.out, blankGo, if_neg (by rw [HR.out, HS2.out]; decide), if_neg H35.out]
            rfl
          rw [e]
          exact (HX.out.drewN _).drewN _
    · go_wp2_with fail
      go_quiet (fail)
      go_wp2
      go_end0
      refine ⟨rfl, gb_drewN hgb _, ?_⟩
      have e : n + blankGo false (L.drop n) = k := by
        rw [← HCO.out, List.drop_eq_nil_of_le (by omega)]
        rfl
      rw [e]
      exact HX.out.drewN _

/-- How many runes a text has, from a place on. -/
def countGo (s : ByteArray) : Nat → Nat → Nat
  | 0, _ => 0
  | f + 1, p => if p < s.size then countGo s f (p + (Utf8.decode s p).2) + 1 else 0
def count (s : ByteArray) : Nat := countGo s s.size 0
theorem countGo_end (s : ByteArray) (f p : Nat) (h : ¬ p < s.size) : countGo s f p = 0 := by cases f <;> simp [countGo, h]
theorem countGo_step (s : ByteArray) (f p : Nat) (h : p < s.size) : countGo s (f + 1) p = countGo s f (p + (Utf8.decode s p).2) + 1 := by rw [countGo, if_pos h]

theorem countGo_le (s : ByteArray) : ∀ f p, countGo s f p ≤ f := by
  intro f
  induction f with
  | zero => intro p; simp [countGo]
  | succ f ih =>
    intro p
    rw [countGo]
    split
    · have := ih (p + (Utf8.decode s p).2); omega
    · omega

theorem length_any (s : ByteArray) (w : World) (hs : s.size ≤ 100000) :
    Calls Tryd.prog 41 #[.string s] w fun e w' => e = .returned (.int .i64 (count s)) ∧ Below w.heap.size w w' := by
  go_enter Tryd.func41, Tryd.ntmps41
  go_wp2
  go_loopw [3] (fun nv wr => ∃ (p f c : Nat), wr.heap[w.heap.size]? = some (.stringIter s p) ∧ s.size ≤ p + f ∧ p ≤ s.size ∧ c ≤ p ∧ nv = .int .i64 c ∧
      c + countGo s f p = count s ∧ Below w.heap.size w wr)
    (fun _ wr => s.size - wr.iterPos w.heap.size)
  case atStart =>
    exact ⟨0, s.size, 0, World.iter_heap w s 0, by omega, by omega, by omega, rfl, by simp [count], (Below.refl _ _).alloc (Nat.le_refl _) _⟩
  case round =>
    obtain ⟨p, f, c, hit, hf, hp, hc, rfl, h1, hb⟩ := hrel
    have H1 := Lib.hid h1
    clear h1
    by_cases hlt : p < s.size
    · have hn := fun ty => Lib.run_next_any_at (P := Tryd.prog) _ _ s p ty hit hlt
      have hw := dec_width s p hlt
      obtain ⟨f, rfl⟩ : ∃ f', f = f' + 1 := ⟨f - 1, by omega⟩
      have hit' := Lib.hid (Lib.iterAt_heap wr _ s p (p + (Utf8.decode s p).2) hit)
      have hb' := Lib.below_iterAt hb (Nat.le_refl _) s (p + (Utf8.decode s p).2)
      go_wp2
      go_roundw
      case rel => exact ⟨_, f, c + 1, hit'.out, by omega, hw.2, by omega, by go_num, by rw [← H1.out, countGo_step s f p hlt]; omega, hb'⟩
      case measure => rw [iterPos_of hit'.out, iterPos_of hit]; omega
    · have hn := fun ty => Lib.run_next_end_at (P := Tryd.prog) _ _ s p ty hit hlt
      go_wp2
      go_ret
      rw [countGo_end s f p hlt] at H1
      exact ⟨ret_int (by have := H1.out; omega), hb⟩

end Go.Proofs.YtcccnnfmhdogoaaDoor
end

section
/-
  'lex.Words', 'lex.signs', 'slices.Contains' at strings: what they compute.
-/
namespace Go.Proofs.YtcccnnfmhdogoaaDoor
open Go Go.RowKit
set_option linter.unusedVariables false

def wordsL : List ByteArray := [⟨#[116, 114, 117, 101]⟩, ⟨#[102, 97, 108, 115, 101]⟩, ⟨#[101, 120, 48]⟩, ⟨#[101, 120, 49]⟩, ⟨#[101, 120, 50]⟩, ⟨#[97, 108, 108, 48]⟩, ⟨#[97, 108, 108, 49]⟩, ⟨#[97, 108, 108, 50]⟩, ⟨#[118, 97, 114, 48]⟩, ⟨#[118, 97, 114, 49]⟩, ⟨#[118, 97, 114, 50]⟩, ⟨#[112, 114, 101, 100]⟩, ⟨#[105, 110]⟩, ⟨#[110, 111, 116, 105, 110]⟩, ⟨#[115, 117, 98]⟩, ⟨#[117, 110, 105, 111, 110]⟩, ⟨#[105, 110, 116, 101, 114]⟩]
def signsB : List ByteArray := [⟨#[60, 61, 62]⟩, ⟨#[61, 62]⟩, ⟨#[60, 61]⟩, ⟨#[126, 61]⟩, ⟨#[61]⟩, ⟨#[126]⟩, ⟨#[60]⟩, ⟨#[38]⟩, ⟨#[124]⟩, ⟨#[40]⟩, ⟨#[41]⟩, ⟨#[123]⟩, ⟨#[125]⟩, ⟨#[44]⟩, ⟨#[59]⟩, ⟨#[58]⟩, ⟨#[43]⟩, ⟨#[92]⟩]

/-- A row of strings at the head of block h. -/
def StrsAt (w : World) (h : Nat) (l : List ByteArray) : Prop := ∀ k, k < l.length → w.cell? ⟨h, k, none⟩ = some (.string (l.getD k ByteArray.empty))
def sameStr (a b : ByteArray) : Bool := a.toList == b.toList
def hasStr (l : List ByteArray) (v : ByteArray) : Bool := l.any fun x => sameStr v x
theorem sameStr_iff (a b : ByteArray) : sameStr a b = true ↔ a = b := by
  unfold sameStr
  rw [beq_iff_eq, ByteArray.toList_eq, ByteArray.toList_eq]
  constructor
  · intro h
    cases a; cases b
    simp at h
    simp [h]
  · rintro rfl; rfl
theorem hasStr_iff (l : List ByteArray) (v : ByteArray) : hasStr l v = true ↔ v ∈ l := by
  unfold hasStr
  rw [List.any_eq_true]
  constructor
  · rintro ⟨x, hx, h⟩
    rw [(sameStr_iff v x).1 h]
    exact hx
  · intro h
    exact ⟨v, h, (sameStr_iff v v).2 rfl⟩

def StrsPost (l : List ByteArray) (w : World) (e : Ending) (w' : World) : Prop :=
  e = .returned (.slice (some ⟨w.heap.size, 0, none⟩) l.length l.length) ∧ StrsAt w' w.heap.size l ∧ Below w.heap.size w w' ∧ w.heap.size < w'.heap.size

theorem strsAt_new (w : World) (l : List ByteArray) (t : TypeId) (cs : Array Value) (h : cs.toList = l.map Value.string) : StrsAt (w.alloc (.cells cs t)) w.heap.size l := by
  intro k hk
  rw [cell_of_row (w.alloc (.cells cs t)) w.heap.size k cs t (0, 0) (heap_alloc_new w _), ← Array.getElem?_toList, h]
  simp [hk]

theorem words_any (w : World) : Calls Tryd.prog 40 #[] w (StrsPost wordsL w) := by
  go_enter Tryd.func40, Tryd.ntmps40
  go_wp2
  go_ret
  exact ⟨rfl, strsAt_new _ _ _ _ rfl, (Below.refl _ _).alloc (Nat.le_refl _) _, by simp⟩
theorem signs_any (w : World) : Calls Tryd.prog 42 #[] w (StrsPost signsB w) := by
  go_enter Tryd.func42, Tryd.ntmps42
  go_wp2
  go_ret
  exact ⟨rfl, strsAt_new _ _ _ _ rfl, (Below.refl _ _).alloc (Nat.le_refl _) _, by simp⟩

theorem index_any (w : World) (h cap : Nat) (l : List ByteArray) (v : ByteArray) (hl : StrsAt w h l) (hlen : l.length ≤ 100000) (hcap : l.length ≤ cap) :
    Calls Tryd.prog 45 #[.slice (some ⟨h, 0, none⟩) l.length cap, .string v] w fun e w' => (∃ i : Int, e = .returned (.int .i64 i) ∧ decide (0 ≤ i) = hasStr l v) ∧ w = w' := by
  go_enter Tryd.func45, Tryd.ntmps45
  go_wp2
  go_loop [8] (fun i => ∃ k : Nat, k ≤ l.length ∧ i = .int .i64 k ∧ ∀ j, j < k → sameStr v (l.getD j ByteArray.empty) = false) (fun i => l.length - (intOf i).toNat)
  case atStart => exact ⟨0, by omega, rfl, by omega⟩
  case round =>
    obtain ⟨k, hk, rfl, hj⟩ := hrel
    have HJ := Lib.hid hj
    have HL := Lib.hid hl
    clear hj hl
    by_cases hlt : k < l.length
    · have hc := HL.out k hlt
      cases hs : sameStr v (l.getD k ByteArray.empty) with
      | true =>
        have hs' : (v.toList == (l.getD k ByteArray.empty).toList) = true := hs
        have HS := Lib.hid hs
        clear hs
        generalize hx : l.getD k ByteArray.empty = x at *
        have HX := Lib.hid hx
        clear hx
        go_wp2
        go_ret
        refine ⟨⟨k, rfl, ?_⟩, rfl⟩
        rw [decide_eq_true (by omega)]
        symm
        rw [hasStr, List.any_eq_true]
        exact ⟨x, by rw [← HX.out]; simp [hlt], HS.out⟩
      | false =>
        have hs' : (v.toList == (l.getD k ByteArray.empty).toList) = false := hs
        have HS := Lib.hid hs
        clear hs
        generalize hx : l.getD k ByteArray.empty = x at *
        have HX := Lib.hid hx
        clear hx
        go_wp2
        go_round
        case rel =>
          refine ⟨k + 1, by omega, by go_num, fun j h => ?_⟩
          rcases Nat.lt_or_ge j k with h1 | h1
          · exact HJ.out j h1
          · obtain rfl : j = k := by omega
            rw [HX.out]; exact HS.out
        case measure => simp [intOf]; omega
    · go_wp2
      go_ret
      refine ⟨⟨-1, rfl, ?_⟩, rfl⟩
      rw [decide_eq_false (by omega)]
      symm
      rw [hasStr, List.any_eq_false]
      intro x hx
      obtain ⟨j, hj, rfl⟩ := List.getElem_of_mem hx
      have := HJ.out j (by omega)
      simp only [List.getD_eq_getElem?_getD, List.getElem?_eq_getElem hj, Option.getD_some] at this
      rw [this]; decide

theorem contains_any (w : World) (h cap : Nat) (l : List ByteArray) (v : ByteArray) (hl : StrsAt w h l) (hlen : l.length ≤ 100000) (hcap : l.length ≤ cap) :
    Calls Tryd.prog 39 #[.slice (some ⟨h, 0, none⟩) l.length cap, .string v] w fun e w' => e = .returned (.bool (hasStr l v)) ∧ w = w' := by
  go_enter Tryd.func39, Tryd.ntmps39
  go_wp2_with fail
  refine (index_any w h cap l v hl hlen hcap).mono ?_
  rintro e w' ⟨⟨i, rfl, hi⟩, rfl⟩
  have HI := Lib.hid hi
  clear hi hl
  go_wp2
  go_ret
  exact ⟨ret_bool HI.out, rfl⟩

end Go.Proofs.YtcccnnfmhdogoaaDoor
end

section
/-
  The lexer of 'lex': 'name'.
-/
namespace Go.Proofs.YtcccnnfmhdogoaaDoor
open Go Go.RowKit
set_option linter.unusedVariables false
attribute [local go_sem] drewN_alloc drewN_setCell

/-- How many runes go on with a name. -/
def moreN : List (Nat × Nat) → Nat
  | [] => 0
  | (c, _) :: r => if moreB c then moreN r + 1 else 0
theorem moreN_le : ∀ r : List (Nat × Nat), moreN r ≤ r.length := by
  intro r
  induction r with
  | nil => simp [moreN]
  | cons x r ih =>
    obtain ⟨c, a⟩ := x
    rw [moreN]
    split
    · simp; omega
    · omega

def NamePost (w : World) (g : Nat) (s : ByteArray) (A : Option Addr) (cap : Nat) (L : List (Nat × Nat)) (bad : Option Nat) (n m : Nat) (e : Ending) (w' : World) : Prop :=
  e = .returned (.tuple #[.agg #[.int .i64 (if hasStr wordsL (s.extract (placeAt s bad L n) (placeAt s bad L m)) then 3 else 1), .string (s.extract (placeAt s bad L n) (placeAt s bad L m)), .int .i64 0, .int .i64 (placeAt s bad L n)],
    .bool (decide (count (s.extract (placeAt s bad L n) (placeAt s bad L m)) ≤ 12))]) ∧ w.grownBy w' (some g) ∧ LexAt w' g s A cap L bad m

set_option maxHeartbeats 1000000 in
theorem name_at (w : World) (g : Nat) (s : ByteArray) (A : Option Addr) (cap : Nat) (L : List (Nat × Nat)) (bad : Option Nat) (n : Nat) (h : LexAt w g s A cap L bad n) :
    Calls Tryd.prog 29 #[.pointer (some ⟨g, 0, none⟩)] w (NamePost w g s A cap L bad n (n + moreN (L.drop n))) := by
  go_enter Tryd.func29, Tryd.ntmps29
  go_wp2_with fail
  refine (at_at _ g s _ cap L bad n (h.kept ((Below.refl _ _).alloc (Nat.le_refl _) _))).mono ?_
  rintro e w1 ⟨rfl, m, rfl⟩
  go_wp2_with fail
  go_loopg [] (L.length - n) (fun q wr => ∃ k : Nat, q = L.length - k ∧ k ≤ L.length ∧ n ≤ k ∧ LexAt wr g s A cap L bad k ∧ w.grownBy wr (some g) ∧ k + moreN (L.drop k) = n + moreN (L.drop n) ∧
    wr.heap[w.heap.size]? = some (.cells #[.int .i64 0, .string ⟨#[]⟩, .int .i64 0, .int .i64 0] 39 (0, 0)) ∧ w.heap.size < wr.heap.size)
  case atStart =>
    exact ⟨n, rfl, h.le, Nat.le_refl _, (h.kept ((Below.refl _ _).alloc (Nat.le_refl _) _)).drewN _, gb_drewN (gb_alloc (World.grownBy.refl _ _) _) _, rfl, heap_alloc_new w _, by simp⟩
  case round =>
    obtain ⟨k, rfl, hk, hnk, hx, hgb, hcount, hB, hsz⟩ := hrel
    have c3 := hx.c3
    have hfew := hx.few
    have HX := Lib.hid hx
    have HCO := Lib.hid hcount
    have HBL := Lib.hid hB
    have hf := hx.fz 3
    have hglt := h.lt
    have H := Lib.hid h
    clear hx hcount h hB
    cases hmore : moreAt L k with
    | true =>
      have hn : k < L.length := by
        rcases Nat.lt_or_ge k L.length with h | h
        · exact h
        · simp [moreAt, List.getElem?_eq_none h] at hmore
      have hd := Lib.hid (drop_at L k hn)
      have hm : moreB ((L[k]'hn).1 : Int) = true := by simpa [moreAt, hn] using hmore
      have HM := Lib.hid hm
      have HMA := Lib.hid hmore
      clear hm hmore
      go_wp2_with fail
      refine (isMore_at _ g s _ cap L bad k HX.out).mono ?_
      rw [HMA.out]
      rintro e w1 ⟨rfl, m1, rfl⟩
      go_wp2
      go_roundg (L.length - (k + 1))
      case measure => omega
      case rel =>
        refine ⟨k + 1, rfl, hn, by omega, ?_, ?_, ?_, ?_, ?_⟩
        · have := (HX.out.put (n' := k + 1) hn).drewN m1
          simpa using this
        · exact gb_drewN (gb_setCell hgb 3 (.int .i64 ((k : Int) + 1))) m1
        · rw [← HCO.out, hd.out, moreN, if_pos HM.out]
          omega
        · exact (Below.heap_setCell wr ⟨g, 3, none⟩ _ w.heap.size (by simp; omega)).trans HBL.out
        · simpa [World.setCell] using hsz
    | false =>
      have HMA := Lib.hid hmore
      have hk2 : n + moreN (L.drop n) = k := by
        rw [← HCO.out]
        rcases Nat.lt_or_ge k L.length with h | h
        · rw [drop_at L k h, moreN, if_neg]
          · rfl
          · simpa [moreAt, h] using hmore
        · rw [List.drop_eq_nil_of_le h]
          rfl
      have HK := Lib.hid hk2
      clear hmore hk2
      go_wp2_with fail
      refine (isMore_at _ g s _ cap L bad k HX.out).mono ?_
      rw [HMA.out]
      rintro e w1 ⟨rfl, m1, rfl⟩
      go_wp2_with fail
      have hpl := placeAt_mono s n k hnk
      have hrun := HX.out.run
      rw [← hrun.1, ← hrun.2] at hpl
      have hss := HX.out.size
      have H1 : LexAt (wr.drewN m1) g s A cap L bad k := HX.out.drewN m1
      have HX1 := Lib.hid H1
      have c0 := H1.c0
      have hgb1 := gb_drewN hgb m1
      have hB1 : (wr.drewN m1).heap[w.heap.size]? = _ := HBL.out
      have HB1 := Lib.hid hB1
      have hsz1 : w.heap.size < (wr.drewN m1).heap.size := hsz
      clear hrun H1 hgb hB1 hsz HBL c3 hf HX HMA HCO
      generalize wr.drewN m1 = w1 at *
      obtain ⟨P0, hP0⟩ : ∃ P0, placeAt s bad L n = P0 := ⟨_, rfl⟩
      obtain ⟨P1, hP1⟩ : ∃ P1, placeAt s bad L k = P1 := ⟨_, rfl⟩
      rw [hP0, hP1] at hpl
      have hAt := fun (W : World) (h : LexAt W g s A cap L bad k) => at_at W g s A cap L bad k h
      rw [hP1] at hAt
      have HAT := Lib.hid hAt
      have HP0 := Lib.hid hP0
      have HP1 := Lib.hid hP1
      rw [hP0]
      clear hAt hP0 hP1
      obtain ⟨hpl1, hpl2⟩ := hpl
      go_cut [5] (fun t5 wx => ∃ t : Nat, t5 = .pointer (some ⟨t, 0, none⟩) ∧ wx.heap[t]? = some (.cells #[.int .i64 1, .string (s.extract P0 P1), .int .i64 0, .int .i64 P0] 39 (0, 0)) ∧
        LexAt wx g s A cap L bad k ∧ w.grownBy wx (some g) ∧ wx.heap[w.heap.size]? = some (.cells #[.int .i64 0, .string ⟨#[]⟩, .int .i64 0, .int .i64 0] 39 (0, 0)) ∧ w.heap.size < t ∧ w.heap.size < wx.heap.size)
      case first =>
        have hne := World.new_ne w1 _ c0
        go_region_held3 (fun w' => w'.cell? ⟨g, 0, none⟩ = some (.string s)) (go_keep)
          (first | (go_at_call 19; refine (HAT.out _ (by first | exact HX1.out.drew | exact (HX1.out.drew).alloc _)).mono ?_; rintro e w' ⟨rfl, m, rfl⟩))
        all_goals
          go_wp2_with fail
          go_meet
          exact ⟨w1.heap.size, rfl, heap_alloc_new w1 _, (HX1.out.alloc _).drewN _, gb_drewN (gb_alloc hgb1 _) _, (alloc_keep w1 _ hsz1).trans HB1.out, hsz1, by simp; omega⟩
      case rest =>
        obtain ⟨t, rfl, htb, hx2, hgb2, hB2, ht, hsz2⟩ := hcut
        clear hgb1 HB1 hsz1 HX1 c0 HAT
        have ct : wc.cell? ⟨t, 1, none⟩ = some (.string (s.extract P0 P1)) := cell_of_row wc t 1 _ _ _ htb
        have htl : t < wc.heap.size := (Array.getElem?_eq_some_iff.1 htb).1
        have HTB := Lib.hid htb
        have HX2 := Lib.hid hx2
        have HB2 := Lib.hid hB2
        clear htb hx2 hB2
        generalize htx : s.extract P0 P1 = text at *
        have HTX := Lib.hid htx
        clear htx
        go_wp2_with fail
        go_cut [30] (fun c30 wx => c30 = .bool (hasStr wordsL text) ∧ Below wc.heap.size wc wx)
        case first =>
          go_region_held3 (fun w' => w'.cell? ⟨t, 1, none⟩ = some (.string text)) (first | go_keep | exact (hbw.cell htl).trans ct)
            (first
              | (go_at_call 40; refine (words_any _).mono ?_; rintro e w2 ⟨rfl, hs, hbw, hsz⟩)
              | (go_at_call 39; refine (contains_any _ _ _ wordsL _ hs (by decide) (by decide)).mono ?_; rintro e w3 ⟨rfl, rfl⟩))
          all_goals
            go_wp2_with fail
            go_meet
            exact ⟨rfl, (bel_drew (Below.refl _ _)).trans hbw⟩
        case rest =>
          obtain ⟨rfl, hbw⟩ := hcut
          have hgb3 := gb_below hgb2 hbw
          have hT3 := (hbw.block t htl).trans HTB.out
          have hB3 := (hbw.block _ hsz2).trans HB2.out
          have hG3 := (hbw.block g HX2.out.lt).trans HX2.out.blk
          have hsz3 := Nat.lt_of_lt_of_le hsz2 hbw.size
          have htl3 := Nat.lt_of_lt_of_le htl hbw.size
          clear hgb2 HTB HB2 HX2 hsz2 htl ct hbw
          have hcz : text.size ≤ 100000 := by rw [← HTX.out]; simp; omega
          have hcn : (count text : Int) ≤ 100000 := by
            have := countGo_le text text.size 0
            unfold count
            omega
          have t0 := cell_of_row _ t 0 _ _ _ hT3
          have t1 := cell_of_row _ t 1 _ _ _ hT3
          have t2 := cell_of_row _ t 2 _ _ _ hT3
          have t3 := cell_of_row _ t 3 _ _ _ hT3
          have tf : ∀ o, wc.frozen? ⟨t, o, none⟩ = false := fun o => by simp [World.frozen?, hT3]
          simp at t0 t1 t2 t3
          have HB3 := Lib.hid hB3
          have HG3 := Lib.hid hG3
          have HT3 := Lib.hid hT3
          clear hB3 hG3 hT3
          obtain ⟨kd, hkd⟩ : ∃ kd : Int, (if hasStr wordsL text then 3 else 1) = kd := ⟨_, rfl⟩
          have HKD := Lib.hid hkd
          clear hkd
          obtain ⟨W3, rfl⟩ : ∃ W3 : World, wc = W3 := ⟨_, rfl⟩
          go_upto_if 30 with (fail)
          go_cut [30] (fun _ wx => wx.heap[t]? = some (.cells #[.int .i64 kd, .string text, .int .i64 0, .int .i64 P0] 39 (0, 0)) ∧
            wx.heap[w.heap.size]? = some (.cells #[.int .i64 0, .string ⟨#[]⟩, .int .i64 0, .int .i64 0] 39 (0, 0)) ∧
            wx.heap[g]? = some (.cells #[.string s, .slice A L.length cap, .int .i64 (badInt bad), .int .i64 k] 47 (0, 0)) ∧ w.grownBy wx (some g))
          case first =>
            have tf0 := tf 0
            cases hk : hasStr wordsL text with
            | true =>
              rw [hk] at HKD
              obtain rfl : 3 = kd := HKD.out
              go_wp2
              go_meet
              refine ⟨heap_put HT3.out 0 _, ?_, ?_, gb_setNew hgb3 (by simp; omega) _⟩
              · exact (Below.heap_setCell _ _ _ _ (by simp; omega)).trans HB3.out
              · exact (Below.heap_setCell _ _ _ _ (by simp; omega)).trans HG3.out
            | false =>
              rw [hk] at HKD
              obtain rfl : 1 = kd := HKD.out
              go_wp2
              go_meet
              exact ⟨HT3.out, HB3.out, HG3.out, hgb3⟩
          case rest =>
            obtain ⟨hT4, hB4, hG4, hgb4⟩ := hcut
            clear t0 t1 t2 t3 tf HT3 HB3 HG3 hgb3
            have hgl : g < wc.heap.size := (Array.getElem?_eq_some_iff.1 hG4).1
            have htl : t < wc.heap.size := (Array.getElem?_eq_some_iff.1 hT4).1
            have hbl : w.heap.size < wc.heap.size := (Array.getElem?_eq_some_iff.1 hB4).1
            have t0 := cell_of_row _ t 0 _ _ _ hT4
            have t1 := cell_of_row _ t 1 _ _ _ hT4
            have t2 := cell_of_row _ t 2 _ _ _ hT4
            have t3 := cell_of_row _ t 3 _ _ _ hT4
            simp at t0 t1 t2 t3
            have HB4 := Lib.hid hB4
            have HG4 := Lib.hid hG4
            have htne : t ≠ w.heap.size := by omega
            clear hT4 hB4 hG4
            go_wp2_with fail
            go_region_with (first
              | (go_at_call 41; refine (length_any text _ hcz).mono ?_; rintro e w4 ⟨rfl, hb4⟩; have B4 := (hb4.block _ hbl).trans HB4.out; have b0 := cell_of_row w4 _ 0 _ _ _ B4; have b1 := cell_of_row w4 _ 1 _ _ _ B4; have b2 := cell_of_row w4 _ 2 _ _ _ B4; have b3 := cell_of_row w4 _ 3 _ _ _ B4; have bf : ∀ o, w4.frozen? ⟨w.heap.size, o, none⟩ = false := (fun o => by simp [World.frozen?, B4]); simp at b0 b1 b2 b3; have HB5 := Lib.hid B4; clear B4; have s0 := (hb4.cell (p := ⟨t, 0, none⟩) htl).trans t0; have s1 := (hb4.cell (p := ⟨t, 1, none⟩) htl).trans t1; have s2 := (hb4.cell (p := ⟨t, 2, none⟩) htl).trans t2; have s3 := (hb4.cell (p := ⟨t, 3, none⟩) htl).trans t3))
            all_goals
              go_wp2
              have hF := heap_put (heap_put (heap_put (heap_put HB5.out 0 (.int .i64 kd)) 1 (.string text)) 2 (.int .i64 0)) 3 (.int .i64 P0)
              have r0 := cell_of_row _ w.heap.size 0 _ _ _ hF
              have r1 := cell_of_row _ w.heap.size 1 _ _ _ hF
              have r2 := cell_of_row _ w.heap.size 2 _ _ _ hF
              have r3 := cell_of_row _ w.heap.size 3 _ _ _ hF
              have r0 : _ = some (Value.int .i64 kd) := r0
              have r1 : _ = some (Value.string text) := r1
              have r2 : _ = some (Value.int .i64 0) := r2
              have r3 : _ = some (Value.int .i64 P0) := r3
              refine bodyPost_ret (v := .tuple #[.agg #[.int .i64 kd, .string text, .int .i64 0, .int .i64 P0], .bool (decide ((count text : Int) ≤ 12))]) (by simp [results, Tryd.results29, go_sem, r0, r1, r2, r3]) rfl ?_
              have hb5 : Below wc.heap.size wc w4 := (bel_drew (Below.refl _ _)).trans hb4
              have G : w.grownBy _ (some g) := gb_setNew (gb_setNew (gb_setNew (gb_setNew (gb_below hgb4 hb5) (p := ⟨w.heap.size, 0, none⟩) (Nat.le_refl _) (.int .i64 kd)) (p := ⟨w.heap.size, 1, none⟩) (Nat.le_refl _) (.string text)) (p := ⟨w.heap.size, 2, none⟩) (Nat.le_refl _) (.int .i64 0)) (p := ⟨w.heap.size, 3, none⟩) (Nat.le_refl _) (.int .i64 P0)
              refine ⟨?_, G, H.out.next G (by rw [HK.out]; exact hk) ?_⟩
              · rw [HK.out, HP0.out, HP1.out, HTX.out, HKD.out, show decide ((count text : Int) ≤ 12) = decide (count text ≤ 12) by rw [decide_eq_decide]; omega]
              · rw [HK.out, heap_set4 (by omega)]
                exact (hb5.block g hgl).trans HG4.out

end Go.Proofs.YtcccnnfmhdogoaaDoor
end

section
/-
  The lexer of 'lex': 'number'.
-/
namespace Go.Proofs.YtcccnnfmhdogoaaDoor
open Go Go.RowKit
set_option linter.unusedVariables false
set_option maxRecDepth 10000
attribute [local go_sem] drewN_alloc drewN_setCell

/-- The number that digits are, held at a cap. -/
def numCap (cap : Nat) : Nat → List (Nat × Nat) → Nat
  | acc, [] => acc
  | acc, (c, _) :: r => if digitB c then numCap cap (min (acc * 10 + (c - 48)) cap) r else acc
def digN : List (Nat × Nat) → Nat
  | [] => 0
  | (c, _) :: r => if digitB c then digN r + 1 else 0

theorem classOf_two {r : Int} : classOf r = 2 ↔ digitB r = true := by
  constructor
  · intro h
    unfold classOf at h
    by_cases h1 : letterB r = true
    · simp [h1] at h
    · by_cases h2 : digitB r = true
      · exact h2
      · rw [if_neg h1, if_neg h2] at h
        split at h
        · simp at h
        · split at h <;> simp at h
  · intro h
    have h1 : letterB r = false := by
      simp only [digitB, decide_eq_true_eq] at h
      simp only [letterB, decide_eq_false_iff_not]
      omega
    exact classOf_digit h1 h

def NumPost (w : World) (g : Nat) (s : ByteArray) (A : Option Addr) (cap : Nat) (L : List (Nat × Nat)) (bad : Option Nat) (n : Nat) (first : Nat) (e : Ending) (w' : World) : Prop :=
  e = .returned (.tuple #[.agg #[.int .i64 2, .string ⟨#[]⟩, .int .i64 (numCap 100 0 (L.drop n)), .int .i64 (placeAt s bad L n)],
    .bool (decide (numCap 100 0 (L.drop n) ≤ 99) && (decide (first ≠ 48) || decide (digN (L.drop n) = 1)))]) ∧ w.grownBy w' (some g) ∧ LexAt w' g s A cap L bad (n + digN (L.drop n))

set_option maxHeartbeats 1000000 in
theorem number_at (w : World) (g : Nat) (s : ByteArray) (A : Option Addr) (cap : Nat) (L : List (Nat × Nat)) (bad : Option Nat) (n : Nat) (h : LexAt w g s A cap L bad n) (hn0 : n < L.length) :
    Calls Tryd.prog 30 #[.pointer (some ⟨g, 0, none⟩)] w (NumPost w g s A cap L bad n (L[n]).1) := by
  have hrun := h.run
  have hpl := (placeAt_mono s n n (Nat.le_refl _)).2
  rw [← hrun.1, ← hrun.2] at hpl
  have hss := h.size
  clear hrun
  go_enter Tryd.func30, Tryd.ntmps30
  go_wp2_with fail
  refine (at_at _ g s _ cap L bad n (h.alloc _)).mono ?_
  rintro e w1 ⟨rfl, m, rfl⟩
  obtain ⟨P0, hP0⟩ : ∃ P0, placeAt s bad L n = P0 := ⟨_, rfl⟩
  rw [hP0] at hpl ⊢
  have HP0 := Lib.hid hP0
  clear hP0
  obtain ⟨j, rfl, hj, e1, e2⟩ := h.rune hn0
  have c1 := h.c1
  have c3 := h.c3
  have hcl := h.cap_le
  have hfew := h.few
  have hglt := h.lt
  have hgl2 := h.lt
  clear e2
  obtain ⟨R0, hR0⟩ : ∃ R0, (L[n]'hn0).1 = R0 := ⟨_, rfl⟩
  rw [hR0] at e1
  have HR0 := Lib.hid hR0
  clear hR0
  have k1 := (World.cell?_alloc_lt w (.cells #[.int .i64 0, .string ⟨#[]⟩, .int .i64 0, .int .i64 0] 39) ⟨g, 1, none⟩ hglt).trans c1
  have k3 := (World.cell?_alloc_lt w (.cells #[.int .i64 0, .string ⟨#[]⟩, .int .i64 0, .int .i64 0] 39) ⟨g, 3, none⟩ hglt).trans c3
  have ke := (World.cell?_alloc_lt w (.cells #[.int .i64 0, .string ⟨#[]⟩, .int .i64 0, .int .i64 0] 39) ⟨j, n * 2, none⟩ hj).trans e1
  go_wp2_with fail
  go_quiet (fail)
  go_wp2_with fail
  have H := Lib.hid h
  have hdn := Lib.hid (drop_at L n hn0)
  clear c1 c3 k1 k3 ke e1 h hj
  go_loopg [] (L.length - n) (fun q wr => ∃ (k acc : Nat), q = L.length - k ∧ k ≤ L.length ∧ LexAt wr g s (some ⟨j, 0, none⟩) cap L bad k ∧ w.grownBy wr (some g) ∧ acc ≤ 100 ∧
    k + digN (L.drop k) = n + digN (L.drop n) ∧ numCap 100 acc (L.drop k) = numCap 100 0 (L.drop n) ∧
    wr.heap[w.heap.size]? = some (.cells #[.int .i64 0, .string ⟨#[]⟩, .int .i64 0, .int .i64 0] 39 (0, 0)) ∧
    wr.heap[w.heap.size + 1]? = some (.cells #[.int .i64 2, .string ⟨#[]⟩, .int .i64 acc, .int .i64 P0] 39 (0, 0)))
  case atStart =>
    refine ⟨n, 0, rfl, by omega, (((H.out.alloc _).alloc _).drewN _).drewN _, gb_drewN (gb_drewN (gb_alloc (gb_alloc (World.grownBy.refl _ _) _) _) _) _, by omega, rfl, rfl, ?_, ?_⟩
    · exact (alloc_keep (w.alloc _) _ (by simp)).trans (heap_alloc_new w _)
    · have := heap_alloc_new (w.alloc (.cells #[.int .i64 0, .string ⟨#[]⟩, .int .i64 0, .int .i64 0] 39)) (.cells #[.int .i64 2, .string ⟨#[]⟩, .int .i64 0, .int .i64 P0] 39)
      simpa using this
  case round =>
    obtain ⟨k, acc, rfl, hk, hx, hgb, hacc, hcount, hnum, hB, hT⟩ := hrel
    have c1 := hx.c1
    have c3 := hx.c3
    have HX := Lib.hid hx
    have HCO := Lib.hid hcount
    have HNU := Lib.hid hnum
    have HBL := Lib.hid hB
    have HTL := Lib.hid hT
    have hf := hx.fz 3
    have hbl : w.heap.size < wr.heap.size := (Array.getElem?_eq_some_iff.1 hB).1
    have htl : w.heap.size + 1 < wr.heap.size := (Array.getElem?_eq_some_iff.1 hT).1
    have t2 : wr.cell? ⟨w.heap.size + 1, 2, none⟩ = some (.int .i64 acc) := cell_of_row _ _ 2 _ _ _ hT
    have tf : wr.frozen? ⟨w.heap.size + 1, 2, none⟩ = false := by simp [World.frozen?, hT]
    clear hx hcount hnum hB hT
    by_cases hd : ∃ h : k < L.length, digitB ((L[k]).1 : Int) = true
    · obtain ⟨hn, hdg⟩ := hd
      obtain ⟨j', hj', hj, e1, e2⟩ := HX.out.rune hn
      obtain rfl : j = j' := by injection hj' with e; injection e
      have hdr := Lib.hid (drop_at L k hn)
      have hcls : (classAt L k == 2) = true := by
        rw [beq_iff_eq, show classAt L k = classOf (L[k]).1 by simp [classAt, hn]]
        exact classOf_two.2 hdg
      have HD := Lib.hid hdg
      have hr : 48 ≤ (L[k]'hn).1 ∧ (L[k]'hn).1 ≤ 57 := by
        simp only [digitB, decide_eq_true_eq] at hdg
        omega
      clear e2 hdg hj'
      obtain ⟨R, hR⟩ : ∃ R, (L[k]'hn).1 = R := ⟨_, rfl⟩
      rw [hR] at e1 hr
      have HR := Lib.hid hR
      clear hR
      go_wp2_with fail
      refine (class_at _ g s _ cap L bad k HX.out).mono ?_
      rintro e w1 ⟨rfl, m1, rfl⟩
      go_wp2_with fail
      refine wp_region_tail 19 (by kernel_rfl) (by kernel_rfl) ?_
      simp only [List.take_succ_cons, List.take_zero, List.drop_succ_cons, List.drop_zero]
      have hA1 : IntKind.i64.wrap ((acc : Int) * 10) = (acc : Int) * 10 := IntWalk.i64_in _ (by omega)
      have hA2 : IntKind.i32.wrap ((R : Int) - 48) = (R : Int) - 48 := by rw [IntKind.wrap_i32]; omega
      have hA3 : IntKind.i64.wrap ((R : Int) - 48) = (R : Int) - 48 := IntWalk.i64_in _ (by omega)
      have hA4 : IntKind.i64.wrap ((acc : Int) * 10 + ((R : Int) - 48)) = (acc : Int) * 10 + ((R : Int) - 48) := IntWalk.i64_in _ (by omega)
      repeat still_step
      clear hA1 hA2 hA3 hA4
      refine wpStill_nil ?_
      have hn2 : numCap 100 (min (acc * 10 + (R - 48)) 100) (L.drop (k + 1)) = numCap 100 0 (L.drop n) := by
        rw [← HNU.out, hdr.out, numCap, if_pos HD.out, HR.out]
      have hc2 : k + 1 + digN (L.drop (k + 1)) = n + digN (L.drop n) := by
        rw [← HCO.out, hdr.out, digN, if_pos HD.out]
        omega
      have HN2 := Lib.hid hn2
      have HC2 := Lib.hid hc2
      clear hn2 hc2
      go_wp2
      all_goals
        go_roundg (L.length - (k + 1))
        case measure => omega
        case rel =>
          refine ⟨k + 1, min (acc * 10 + (R - 48)) 100, rfl, hn, ?_, ?_, by omega, HC2.out, HN2.out, ?_, ?_⟩
          · exact (H.out.adv (gb_setNew hgb (by simp) _) hn ((Below.heap_setCell _ _ _ _ (by simp; omega)).trans HX.out.blk)).drewN _
          · exact gb_drewN (gb_setCell (gb_setNew hgb (by simp) _) 3 _) _
          · exact (Below.heap_setCell _ ⟨g, 3, none⟩ _ w.heap.size (by simp; omega)).trans ((Below.heap_setCell wr ⟨w.heap.size + 1, 2, none⟩ _ w.heap.size (by simp)).trans HBL.out)
          · refine (Below.heap_setCell _ ⟨g, 3, none⟩ _ (w.heap.size + 1) (by simp; omega)).trans ((heap_put HTL.out 2 _).trans ?_)
            simp
            omega
    · have hne : (classAt L k == 2) = false := by
        rw [beq_eq_false_iff_ne]
        intro h2
        apply hd
        rcases Nat.lt_or_ge k L.length with h | h
        · exact ⟨h, classOf_two.1 (by rw [show classAt L k = classOf (L[k]).1 by simp [classAt, h]] at h2; exact h2)⟩
        · simp [classAt, List.getElem?_eq_none h] at h2
      have hz1 : digN (L.drop k) = 0 := by
        rcases Nat.lt_or_ge k L.length with h | h
        · rw [drop_at L k h, digN, if_neg (fun e => hd ⟨h, e⟩)]
        · rw [List.drop_eq_nil_of_le h]; rfl
      have hz2 : numCap 100 acc (L.drop k) = acc := by
        rcases Nat.lt_or_ge k L.length with h | h
        · rw [drop_at L k h, numCap, if_neg (fun e => hd ⟨h, e⟩)]
        · rw [List.drop_eq_nil_of_le h]; rfl
      have hk2 : k = n + digN (L.drop n) := by rw [← HCO.out, hz1]; rfl
      have hac : numCap 100 0 (L.drop n) = acc := by rw [← HNU.out, hz2]
      have HK2 := Lib.hid hk2
      have HAC := Lib.hid hac
      have hnk : n ≤ k := by omega
      clear hz1 hz2 hk2 hac hd
      have t0 : wr.cell? ⟨w.heap.size + 1, 0, none⟩ = some (.int .i64 2) := cell_of_row _ _ 0 _ _ _ HTL.out
      have t1 : wr.cell? ⟨w.heap.size + 1, 1, none⟩ = some (.string ⟨#[]⟩) := cell_of_row _ _ 1 _ _ _ HTL.out
      have t3 : wr.cell? ⟨w.heap.size + 1, 3, none⟩ = some (.int .i64 P0) := cell_of_row _ _ 3 _ _ _ HTL.out
      have b0 : wr.cell? ⟨w.heap.size, 0, none⟩ = some (.int .i64 0) := cell_of_row _ _ 0 _ _ _ HBL.out
      have b1 : wr.cell? ⟨w.heap.size, 1, none⟩ = some (.string ⟨#[]⟩) := cell_of_row _ _ 1 _ _ _ HBL.out
      have b2 : wr.cell? ⟨w.heap.size, 2, none⟩ = some (.int .i64 0) := cell_of_row _ _ 2 _ _ _ HBL.out
      have b3 : wr.cell? ⟨w.heap.size, 3, none⟩ = some (.int .i64 0) := cell_of_row _ _ 3 _ _ _ HBL.out
      have bf : ∀ o, wr.frozen? ⟨w.heap.size, o, none⟩ = false := fun o => by simp [World.frozen?, HBL.out]
      go_wp2_with fail
      refine (class_at _ g s _ cap L bad k HX.out).mono ?_
      rintro e w1 ⟨rfl, m1, rfl⟩
      have hA1 : IntKind.i64.wrap ((k : Int) - (n : Int)) = (k : Int) - (n : Int) := IntWalk.i64_in _ (by omega)
      have HA1 := Lib.hid hA1
      clear hA1
      have hF := heap_put (heap_put (heap_put (heap_put HBL.out 0 (.int .i64 2)) 1 (.string ⟨#[]⟩)) 2 (.int .i64 acc)) 3 (.int .i64 P0)
      have r0 : _ = some (Value.int .i64 2) := cell_of_row _ w.heap.size 0 _ _ _ hF
      have r1 : _ = some (Value.string ⟨#[]⟩) := cell_of_row _ w.heap.size 1 _ _ _ hF
      have r2 : _ = some (Value.int .i64 acc) := cell_of_row _ w.heap.size 2 _ _ _ hF
      have r3 : _ = some (Value.int .i64 P0) := cell_of_row _ w.heap.size 3 _ _ _ hF
      have G : w.grownBy _ (some g) := gb_setNew (gb_setNew (gb_setNew (gb_setNew hgb (p := ⟨w.heap.size, 0, none⟩) (Nat.le_refl _) (.int .i64 2)) (p := ⟨w.heap.size, 1, none⟩) (Nat.le_refl _) (.string ⟨#[]⟩)) (p := ⟨w.heap.size, 2, none⟩) (Nat.le_refl _) (.int .i64 acc)) (p := ⟨w.heap.size, 3, none⟩) (Nat.le_refl _) (.int .i64 P0)
      have GB := (heap_set4 (w := wr) (b := w.heap.size) (g := g) (by omega) (.int .i64 2) (.string ⟨#[]⟩) (.int .i64 acc) (.int .i64 P0)).trans HX.out.blk
      have HR0' := Lib.hid r0
      have HR1' := Lib.hid r1
      have HR2' := Lib.hid r2
      have HR3' := Lib.hid r3
      have HG' := Lib.hid G
      have HGB' := Lib.hid GB
      clear r0 r1 r2 r3 G GB hF
      have fin : ∀ (b : Bool) (q : Nat), (b = (decide (acc ≤ 99) && (decide (R0 ≠ 48) || decide (digN (L.drop n) = 1)))) →
          NumPost w g s (some ⟨j, 0, none⟩) cap L bad n R0 (.returned (.tuple #[.agg #[.int .i64 2, .string ⟨#[]⟩, .int .i64 acc, .int .i64 P0], .bool b]))
            (((((wr.setCell ⟨w.heap.size, 0, none⟩ (.int .i64 2)).setCell ⟨w.heap.size, 1, none⟩ (.string ⟨#[]⟩)).setCell ⟨w.heap.size, 2, none⟩ (.int .i64 acc)).setCell ⟨w.heap.size, 3, none⟩ (.int .i64 P0)).drewN q) := by
        intro b q hb
        refine ⟨?_, gb_drewN HG'.out _, ?_⟩
        · rw [HAC.out, HP0.out, hb]
        · have := (H.out.next HG'.out (n' := k) hk HGB'.out).drewN q
          rw [← HK2.out]
          exact this
      have FIN := Lib.hid fin
      clear fin
      rcases Nat.lt_or_ge 99 acc with h99 | h99
      · have q1 : decide ((acc : Int) ≤ 99) = false := decide_eq_false (by omega)
        go_wp2_with fail
        go_region
        go_wp2
        have r0 := HR0'.out
        have r1 := HR1'.out
        have r2 := HR2'.out
        have r3 := HR3'.out
        refine bodyPost_ret (v := .tuple #[.agg #[.int .i64 2, .string ⟨#[]⟩, .int .i64 acc, .int .i64 P0], .bool false]) (by simp [results, Tryd.results30, go_sem, r0, r1, r2, r3]) rfl ?_
        rw [HR0.out]; exact FIN.out _ _ (by rw [decide_eq_false (by omega : ¬ acc ≤ 99)]; rfl)
      · have q1 : decide ((acc : Int) ≤ 99) = true := decide_eq_true (by omega)
        by_cases h48 : R0 = 48
        · have q2 : ((R0 : Int) != 48) = false := by rw [h48]; rfl
          have H48 := Lib.hid h48
          clear h48
          have hA1 := HA1.out
          by_cases h1 : digN (L.drop n) = 1
          · have q3 : ((k : Int) - (n : Int) == 1) = true := by rw [beq_iff_eq]; have := HK2.out; omega
            have H1 := Lib.hid h1
            clear h1
            go_wp2_with fail
            go_region
            go_wp2
            have r0 := HR0'.out
            have r1 := HR1'.out
            have r2 := HR2'.out
            have r3 := HR3'.out
            refine bodyPost_ret (v := .tuple #[.agg #[.int .i64 2, .string ⟨#[]⟩, .int .i64 acc, .int .i64 P0], .bool true]) (by simp [results, Tryd.results30, go_sem, r0, r1, r2, r3]) rfl ?_
            rw [HR0.out]; exact FIN.out _ _ (by rw [decide_eq_true (by omega : acc ≤ 99), decide_eq_true H1.out]; simp)
          · have q3 : ((k : Int) - (n : Int) == 1) = false := by rw [beq_eq_false_iff_ne]; have := HK2.out; omega
            have H1 := Lib.hid h1
            clear h1
            go_wp2_with fail
            go_region
            go_wp2
            have r0 := HR0'.out
            have r1 := HR1'.out
            have r2 := HR2'.out
            have r3 := HR3'.out
            refine bodyPost_ret (v := .tuple #[.agg #[.int .i64 2, .string ⟨#[]⟩, .int .i64 acc, .int .i64 P0], .bool false]) (by simp [results, Tryd.results30, go_sem, r0, r1, r2, r3]) rfl ?_
            rw [HR0.out]; exact FIN.out _ _ (by rw [decide_eq_false H1.out, H48.out]; simp)
        · have q2 : ((R0 : Int) != 48) = true := by rw [bne_iff_ne]; omega
          have H48 := Lib.hid h48
          clear h48
          go_wp2_with fail
          go_region
          go_wp2
          have r0 := HR0'.out
          have r1 := HR1'.out
          have r2 := HR2'.out
          have r3 := HR3'.out
          refine bodyPost_ret (v := .tuple #[.agg #[.int .i64 2, .string ⟨#[]⟩, .int .i64 acc, .int .i64 P0], .bool true]) (by simp [results, Tryd.results30, go_sem, r0, r1, r2, r3]) rfl ?_
          rw [HR0.out]; exact FIN.out _ _ (by rw [decide_eq_true (by omega : acc ≤ 99), decide_eq_true H48.out]; simp)

end Go.Proofs.YtcccnnfmhdogoaaDoor
end

section
/-
  The lexer of 'lex': 'sign'.
-/
namespace Go.Proofs.YtcccnnfmhdogoaaDoor
open Go Go.RowKit
set_option linter.unusedVariables false
attribute [local go_sem] drewN_alloc drewN_setCell

theorem hasPrefix_is (s p : ByteArray) (w : World) (b : Bool) (hs : s.size ≤ 100000) (hp : p.size ≤ 100000) (h : hasPre s p = b) :
    Calls Tryd.prog 24 #[.string s, .string p] w fun e w' => e = .returned (.bool b) ∧ w = w' := h ▸ hasPrefix_any s p w hs hp

/-- The longest sign with which runes begin. -/
def signOf (r : List (Nat × Nat)) : Option ByteArray := signsB.find? fun sg => fitsR r sg.data.toList

theorem signs_ascii : ∀ sg ∈ signsB, ∀ b ∈ sg.data.toList, b.toNat < 128 := by decide +kernel
theorem signs_size : ∀ sg ∈ signsB, 1 ≤ sg.size ∧ sg.size ≤ 3 := by decide +kernel

theorem hasPre_fits (s sg : ByteArray) (n : Nat) (hsg : sg ∈ signsB) :
    hasPre (s.extract (placeAt s (each s).2 (each s).1 n) s.size) sg = fitsR ((each s).1.drop n) sg.data.toList := by
  have hc := each_chain s
  have hp := (placeAt_mono s n n (Nat.le_refl _)).2
  rw [hasPre_eq s sg _ hp]
  exact pre_fits s _ (each_fin s) _ (signs_ascii sg hsg) _ _ (chain_drop s _ n _ 0 hc.1) hp

def SignPost (w : World) (g : Nat) (s : ByteArray) (A : Option Addr) (cap : Nat) (L : List (Nat × Nat)) (bad : Option Nat) (n : Nat) (e : Ending) (w' : World) : Prop :=
  match signOf (L.drop n) with
  | some sg => e = .returned (.tuple #[.agg #[.int .i64 3, .string sg, .int .i64 0, .int .i64 (placeAt s bad L n)], .bool true]) ∧ w.grownBy w' (some g) ∧ LexAt w' g s A cap L bad (n + sg.size)
  | none => e = .returned (.tuple #[.agg #[.int .i64 0, .string ⟨#[]⟩, .int .i64 0, .int .i64 0], .bool false]) ∧ w.grownBy w' (some g) ∧ LexAt w' g s A cap L bad n

set_option maxHeartbeats 1000000 in
theorem sign_at' (w : World) (g : Nat) (s : ByteArray) (A : Option Addr) (cap : Nat) (L : List (Nat × Nat)) (bad : Option Nat) (n : Nat) (h : LexAt w g s A cap L bad n) :
    Calls Tryd.prog 31 #[.pointer (some ⟨g, 0, none⟩)] w (SignPost w g s A cap L bad n) := by
  have hrun := h.run
  have hpl := (placeAt_mono s n n (Nat.le_refl _)).2
  rw [← hrun.1, ← hrun.2] at hpl
  have hpre := fun sg hsg => hasPre_fits s sg n hsg
  rw [← hrun.1, ← hrun.2] at hpre
  have hss := h.size
  clear hrun
  obtain ⟨P0, hP0⟩ : ∃ P0, placeAt s bad L n = P0 := ⟨_, rfl⟩
  have hat := fun (W : World) (h : LexAt W g s A cap L bad n) => at_at W g s A cap L bad n h
  rw [hP0] at hpl hpre hat
  have HP0 := Lib.hid hP0
  have HPRE := Lib.hid hpre
  have HAT := Lib.hid hat
  clear hP0 hpre hat
  have H := Lib.hid h
  have hglt := h.lt
  clear h
  go_enter Tryd.func31, Tryd.ntmps31
  go_wp2_with fail
  refine (signs_any _).mono ?_
  rintro e w1 ⟨rfl, hst, hb1, hsz1⟩
  have hW0 : (w.alloc (.cells #[.int .i64 0, .string ⟨#[]⟩, .int .i64 0, .int .i64 0] 39)).heap.size = w.heap.size + 1 := by simp
  have hx1 : LexAt w1 g s A cap L bad n := (H.out.alloc _).kept hb1
  have hgb1 : w.grownBy w1 (some g) := gb_below (gb_alloc (World.grownBy.refl _ _) _) hb1
  have hB1 : w1.heap[w.heap.size]? = some (.cells #[.int .i64 0, .string ⟨#[]⟩, .int .i64 0, .int .i64 0] 39 (0, 0)) := (hb1.block _ (by simp)).trans (heap_alloc_new w _)
  rw [hW0] at hst hsz1
  clear hW0 hb1
  have HX1 := Lib.hid hx1
  have HB1 := Lib.hid hB1
  have HST := Lib.hid hst
  clear hx1 hB1 hst
  have hl18 : signsB.length = 18 := rfl
  go_wp2_with fail
  go_loopg [9] 18 (fun q iv wr => ∃ k : Nat, q = 18 - k ∧ k ≤ 18 ∧ iv = .int .i64 k ∧ LexAt wr g s A cap L bad n ∧ w.grownBy wr (some g) ∧
    wr.heap[w.heap.size]? = some (.cells #[.int .i64 0, .string ⟨#[]⟩, .int .i64 0, .int .i64 0] 39 (0, 0)) ∧ StrsAt wr (w.heap.size + 1) signsB ∧ w.heap.size + 1 < wr.heap.size ∧
    ∀ j, j < k → fitsR (L.drop n) (signsB.getD j ByteArray.empty).data.toList = false)
  case atStart => exact ⟨0, rfl, by omega, rfl, HX1.out, hgb1, HB1.out, HST.out, hsz1, by omega⟩
  case round =>
    obtain ⟨k, rfl, hk, rfl, hx, hgb, hB, hst, hsz, hj⟩ := hrel
    clear HX1 HB1 HST hsz1 hgb1
    have HX := Lib.hid hx
    have HB := Lib.hid hB
    have HS := Lib.hid hst
    have HJ := Lib.hid hj
    have c0 := hx.c0
    have c3 := hx.c3
    have hf3 := hx.fz 3
    clear hx hB hst hj
    by_cases hlt : k < 18
    · obtain ⟨sg, hsg⟩ : ∃ sg, signsB.getD k ByteArray.empty = sg := ⟨_, rfl⟩
      have hc := HS.out k hlt
      rw [hsg] at hc
      have hmem : sg ∈ signsB := by
        rw [← hsg, List.getD_eq_getElem?_getD, List.getElem?_eq_getElem hlt]
        exact List.getElem_mem _
      have hsgz := signs_size sg hmem
      have HSG := Lib.hid hsg
      have hp := HPRE.out sg hmem
      have HM := Lib.hid hmem
      clear hsg hmem
      have hzx : (s.extract P0 s.size).size ≤ 100000 := by simp; omega
      cases hfit : fitsR (L.drop n) sg.data.toList with
      | false =>
        have HF := Lib.hid hfit
        rw [hfit] at hp
        have HPP := Lib.hid hp
        clear hfit hp
        go_wp2_with fail
        go_quiet ((first
          | (go_at_call 19; exact Calls.quiet_of (HAT.out _ (HX.out.drewN _)))
          | (go_at_call 24; exact Calls.quiet_of (quiet_same (hasPrefix_is _ _ _ _ hzx (by omega) HPP.out)))))
        go_wp2_with fail
        go_roundg (18 - (k + 1))
        case measure => omega
        case rel =>
          refine ⟨k + 1, rfl, by omega, by go_num, HX.out.drewN _, gb_drewN hgb _, HB.out, fun j hj => HS.out j hj, hsz, fun j hj => ?_⟩
          rcases Nat.lt_or_ge j k with h1 | h1
          · exact HJ.out j h1
          · obtain rfl : j = k := by omega
            rw [HSG.out]; exact HF.out
      | true =>
        have HF := Lib.hid hfit
        have hle := fitsR_le _ _ hfit
        have hle2 : n + sg.size ≤ L.length := by
          simp at hle
          have := HX.out.le
          omega
        rw [hfit] at hp
        have HPP := Lib.hid hp
        clear hfit hle hp
        have hso : signOf (L.drop n) = some sg := by
          unfold signOf
          rw [List.find?_eq_some_iff_getElem]
          refine ⟨HF.out, k, hlt, ?_, fun j hjk => ?_⟩
          · have := HSG.out
            simpa [List.getD_eq_getElem?_getD, List.getElem?_eq_getElem (l := signsB) hlt] using this
          · have hjl : j < signsB.length := Nat.lt_trans hjk hlt
            have := HJ.out j hjk
            simp only [List.getD_eq_getElem?_getD, List.getElem?_eq_getElem hjl, Option.getD_some] at this
            simp [this]
        have HSO := Lib.hid hso
        clear hso
        have hfew := HX.out.few
        go_wp2_with fail
        go_quiet ((first
          | (go_at_call 19; exact Calls.quiet_of (HAT.out _ (HX.out.drewN _)))
          | (go_at_call 24; exact Calls.quiet_of (quiet_same (hasPrefix_is _ _ _ _ hzx (by omega) HPP.out)))))
        go_wp2_with fail
        refine (HAT.out _ (HX.out.drewN _)).mono ?_
        rintro e w2 ⟨rfl, m2, rfl⟩
        have hbl : w.heap.size < wr.heap.size := by omega
        have hgl : g < wr.heap.size := HX.out.lt
        have hxa := HX.out.alloc (.cells #[.int .i64 3, .string sg, .int .i64 0, .int .i64 P0] 39)
        have k3 := hxa.c3
        have kf := hxa.fz 3
        have hBa := (alloc_keep wr (.cells #[.int .i64 3, .string sg, .int .i64 0, .int .i64 P0] 39) hbl).trans HB.out
        have hTa := heap_alloc_new wr (.cells #[.int .i64 3, .string sg, .int .i64 0, .int .i64 P0] 39)
        have gba := gb_alloc hgb (.cells #[.int .i64 3, .string sg, .int .i64 0, .int .i64 P0] 39)
        have HXA := Lib.hid hxa
        have HBA := Lib.hid hBa
        have HTA := Lib.hid hTa
        have HGA := Lib.hid gba
        clear hxa hBa hTa gba
        go_upto_region 7 with fail
        have hx5 : LexAt (wr.setCell ⟨g, 3, none⟩ (.int .i64 ((n : Int) + (sg.size : Int)))) g s A cap L bad (n + sg.size) := by
          have := HX.out.put (n' := n + sg.size) hle2
          simpa using this
        have gb5 := gb_setCell hgb 3 (.int .i64 ((n : Int) + (sg.size : Int)))
        have hB5 : (wr.setCell ⟨g, 3, none⟩ (.int .i64 ((n : Int) + (sg.size : Int)))).heap[w.heap.size]? = _ := (Below.heap_setCell _ _ _ _ (by simp; omega)).trans HB.out
        have hsz5 : w.heap.size < (wr.setCell ⟨g, 3, none⟩ (.int .i64 ((n : Int) + (sg.size : Int)))).heap.size := by simpa [World.setCell] using hbl
        have he5 : wr.heap.size = (wr.setCell ⟨g, 3, none⟩ (.int .i64 ((n : Int) + (sg.size : Int)))).heap.size := by simp [World.setCell]
        rw [he5]
        clear HXA HBA HTA HGA k3 kf c0 c3 hf3 hc HX hgb HB HS
        generalize wr.setCell ⟨g, 3, none⟩ (.int .i64 ((n : Int) + (sg.size : Int))) = W5 at *
        have b0 : W5.cell? ⟨w.heap.size, 0, none⟩ = some (.int .i64 0) := cell_of_row _ w.heap.size 0 _ _ _ hB5
        have b1 : W5.cell? ⟨w.heap.size, 1, none⟩ = some (.string ⟨#[]⟩) := cell_of_row _ w.heap.size 1 _ _ _ hB5
        have b2 : W5.cell? ⟨w.heap.size, 2, none⟩ = some (.int .i64 0) := cell_of_row _ w.heap.size 2 _ _ _ hB5
        have b3 : W5.cell? ⟨w.heap.size, 3, none⟩ = some (.int .i64 0) := cell_of_row _ w.heap.size 3 _ _ _ hB5
        have bf : ∀ o, W5.frozen? ⟨w.heap.size, o, none⟩ = false := fun o => by simp [World.frozen?, hB5]
        have hne5 : w.heap.size ≠ W5.heap.size := by omega
        have HB5 := Lib.hid hB5
        have HX5 := Lib.hid hx5
        clear hB5 hx5
        go_wp2
        obtain ⟨r0, r1, r2, r3⟩ := set4_cells HB5.out (.int .i64 3) (.string sg) (.int .i64 0) (.int .i64 P0)
        have G := gb_alloc (gb_set4 (b := w.heap.size) gb5 (Nat.le_refl _) (.int .i64 3) (.string sg) (.int .i64 0) (.int .i64 P0)) (.cells #[.int .i64 3, .string sg, .int .i64 0, .int .i64 P0] 39)
        have hzz : w.heap.size < ((((W5.setCell ⟨w.heap.size, 0, none⟩ (.int .i64 3)).setCell ⟨w.heap.size, 1, none⟩ (.string sg)).setCell ⟨w.heap.size, 2, none⟩ (.int .i64 0)).setCell ⟨w.heap.size, 3, none⟩ (.int .i64 P0)).heap.size := by simpa [World.setCell] using hsz5
        have GB := ((alloc_keep _ (.cells #[.int .i64 3, .string sg, .int .i64 0, .int .i64 P0] 39) (k := g) (by omega)).trans (heap_set4 (w := W5) (b := w.heap.size) (g := g) (by omega) (.int .i64 3) (.string sg) (.int .i64 0) (.int .i64 P0))).trans HX5.out.blk
        generalize (((W5.setCell ⟨w.heap.size, 0, none⟩ (.int .i64 3)).setCell ⟨w.heap.size, 1, none⟩ (.string sg)).setCell ⟨w.heap.size, 2, none⟩ (.int .i64 0)).setCell ⟨w.heap.size, 3, none⟩ (.int .i64 P0) = W6 at *
        have s0 := (World.cell?_alloc_lt W6 (.cells #[.int .i64 3, .string sg, .int .i64 0, .int .i64 P0] 39) ⟨w.heap.size, 0, none⟩ hzz).trans r0
        have s1 := (World.cell?_alloc_lt W6 (.cells #[.int .i64 3, .string sg, .int .i64 0, .int .i64 P0] 39) ⟨w.heap.size, 1, none⟩ hzz).trans r1
        have s2 := (World.cell?_alloc_lt W6 (.cells #[.int .i64 3, .string sg, .int .i64 0, .int .i64 P0] 39) ⟨w.heap.size, 2, none⟩ hzz).trans r2
        have s3 := (World.cell?_alloc_lt W6 (.cells #[.int .i64 3, .string sg, .int .i64 0, .int .i64 P0] 39) ⟨w.heap.size, 3, none⟩ hzz).trans r3
        refine bodyPost_ret (v := .tuple #[.agg #[.int .i64 3, .string sg, .int .i64 0, .int .i64 P0], .bool true]) (by simp [results, Tryd.results31, go_sem, s0, s1, s2, s3]) rfl ?_
        rw [SignPost, HSO.out]
        exact ⟨by rw [HP0.out], gb_drewN G _, (H.out.next G hle2 GB).drewN _⟩
    · have hk18 : k = 18 := by omega
      have hso : signOf (L.drop n) = none := by
        unfold signOf
        rw [List.find?_eq_none]
        intro sg hsg
        obtain ⟨j, hj, rfl⟩ := List.getElem_of_mem hsg
        have := HJ.out j (by rw [hl18] at hj; omega)
        simp only [List.getD_eq_getElem?_getD, List.getElem?_eq_getElem hj, Option.getD_some] at this
        simp [this]
      have HSO := Lib.hid hso
      clear hso hk18
      have b0 : wr.cell? ⟨w.heap.size, 0, none⟩ = some (.int .i64 0) := cell_of_row _ _ 0 _ _ _ HB.out
      have b1 : wr.cell? ⟨w.heap.size, 1, none⟩ = some (.string ⟨#[]⟩) := cell_of_row _ _ 1 _ _ _ HB.out
      have b2 : wr.cell? ⟨w.heap.size, 2, none⟩ = some (.int .i64 0) := cell_of_row _ _ 2 _ _ _ HB.out
      have b3 : wr.cell? ⟨w.heap.size, 3, none⟩ = some (.int .i64 0) := cell_of_row _ _ 3 _ _ _ HB.out
      have bf : ∀ o, wr.frozen? ⟨w.heap.size, o, none⟩ = false := fun o => by simp [World.frozen?, HB.out]
      go_wp2
      obtain ⟨r0, r1, r2, r3⟩ := set4_cells HB.out (.int .i64 0) (.string ⟨#[]⟩) (.int .i64 0) (.int .i64 0)
      refine bodyPost_ret (v := .tuple #[.agg #[.int .i64 0, .string ⟨#[]⟩, .int .i64 0, .int .i64 0], .bool false]) (by simp [results, Tryd.results31, go_sem, r0, r1, r2, r3]) rfl ?_
      have G := gb_set4 (b := w.heap.size) hgb (Nat.le_refl _) (.int .i64 0) (.string ⟨#[]⟩) (.int .i64 0) (.int .i64 0)
      rw [SignPost, HSO.out]
      exact ⟨rfl, G, H.out.next G HX.out.le ((heap_set4 (by omega) _ _ _ _).trans HX.out.blk)⟩

end Go.Proofs.YtcccnnfmhdogoaaDoor
end
