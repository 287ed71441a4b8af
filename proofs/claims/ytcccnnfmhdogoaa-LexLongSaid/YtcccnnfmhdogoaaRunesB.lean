/-
  'runes.Each', the runes of a text up to the first byte that begins none: what it computes.
-/
import Derived.Test.YtcccnnfmhdogoaaRunesA
import Derived.Test.YtcccnnfmhdogoaaRunesP
namespace Go.Proofs.Ytcccnnfmhdogoaa
open Go Go.RowKit
set_option linter.unusedVariables false

theorem hasPrefix_yes (s p : ByteArray) (w : World) (hs : s.size ≤ 100000) (hp : p.size ≤ 100000) :
    Calls Try.prog 33 #[.string s, .string p] w fun e w' => e = .returned (.bool (hasPre s p)) ∧ w = w' := by
  go_enter Try.func33, Try.ntmps33
  by_cases h : p.size ≤ s.size
  · go_wp2
    go_ret
    refine ⟨ret_bool ?_, rfl⟩
    unfold hasPre
    rw [ByteArray.toList_eq, ByteArray.toList_eq, ByteArray.data_extract, Array.toList_extract, Bool.eq_iff_iff, beq_iff_eq, List.isPrefixOf_iff_prefix, List.prefix_iff_eq_take]
    simp [List.extract]
    exact eq_comm
  · go_wp2
    go_ret
    refine ⟨ret_bool ?_, rfl⟩
    symm
    unfold hasPre
    rw [Bool.eq_false_iff]
    intro hh
    have := (List.isPrefixOf_iff_prefix.1 hh).length_le
    simp at this
    omega
theorem hasPrefix_any (s p : ByteArray) (w : World) (hs : s.size ≤ 100000) (hp : p.size ≤ 100000) :
    Calls Try.prog 28 #[.string s, .string p] w fun e w' => e = .returned (.bool (hasPre s p)) ∧ w = w' := by
  go_enter Try.func28, Try.ntmps28
  go_wp2_with (go_at_call 33; refine (hasPrefix_yes _ _ _ hs hp).mono ?_; rintro e w' ⟨rfl, rfl⟩)
  go_ret
  exact ⟨rfl, rfl⟩

theorem isOdd_any (s : ByteArray) (pos : Nat) (r : Int) (w : World) (hs : s.size ≤ 100000) (hp : pos < s.size) :
    Calls Try.prog 22 #[.string s, .int .i64 pos, .int .i32 r] w fun e w' => e = .returned (.bool (decide (r = 65533) && !(errPrefix s pos))) ∧ w = w' := by
  by_cases h : r = 65533
  · rw [decide_eq_true h, Bool.true_and]
    subst h
    go_enter Try.func22, Try.ntmps22
    go_wp2_with (go_at_call 28; refine (hasPrefix_any _ _ _ (by simp; omega) (by decide)).mono ?_; rintro e w' ⟨rfl, rfl⟩)
    all_goals
      go_ret
      refine ⟨ret_bool ?_, rfl⟩
      simp_all [errPrefix]
  · rw [decide_eq_false h, Bool.false_and]
    have hb : ((r == 65533) = false) := by simp [h]
    clear h
    go_enter Try.func22, Try.ntmps22
    go_wp2
    go_ret
    exact ⟨rfl, rfl⟩

theorem infoRune : (Try.prog.info? 43).map (fun i => (i.zero, i.size, i.bytes)) = some (some (.agg #[.int .i32 0, .int .i64 0]), 2, 16) := by kernel_rfl

def EachPost (s : ByteArray) (w : World) (e : Ending) (w' : World) : Prop :=
  ∃ v : Value, e = .returned (.tuple #[v, .int .i64 (badInt (each s).2)]) ∧ w'.ownsRow w.heap.size 43 2 v (each s).1.length (runeCells (each s).1) ∧ Below w.heap.size w w'

theorem isOdd_dec (s : ByteArray) (pos : Nat) (w : World) (hs : s.size ≤ 100000) (hp : pos < s.size) (b : Bool) (h : decide ((Utf8.decode s pos).1 = 65533 ∧ (Utf8.decode s pos).2 = 1) = b) :
    Calls Try.prog 22 #[.string s, .int .i64 pos, .int .i32 (Utf8.decode s pos).1] w fun e w' => e = .returned (.bool b) ∧ w = w' := by
  refine (isOdd_any s pos _ w hs hp).mono fun e w' => ?_
  rintro ⟨rfl, rfl⟩
  refine ⟨ret_bool ?_, rfl⟩
  rw [← h, ← odd_iff s pos hp]
  congr 1
  rw [decide_eq_decide]
  omega

theorem each_any (s : ByteArray) (w : World) (hs : s.size ≤ 100000) :
    Calls Try.prog 17 #[.string s] w (EachPost s w) := by
  obtain ⟨i0, hi, hz0, hz1, hz2⟩ := info_parts infoRune
  go_enter Try.func17, Try.ntmps17
  go_wp2
  go_loopw [2] (fun v wr => ∃ (p f : Nat) (acc : List (Nat × Nat)), wr.heap[w.heap.size]? = some (.stringIter s p) ∧ s.size ≤ p + f ∧ acc.length ≤ p ∧ p ≤ s.size ∧
      acc ++ (eachGo s f p).1 = (each s).1 ∧ (eachGo s f p).2 = (each s).2 ∧
      wr.ownsRow (w.heap.size + 1) 43 2 v acc.length (runeCells acc) ∧ Below w.heap.size w wr ∧ w.heap.size + 1 ≤ wr.heap.size)
    (fun _ wr => s.size - wr.iterPos w.heap.size)
  case atStart =>
    exact ⟨0, s.size, [], World.iter_heap w s 0, by omega, by simp, by omega, rfl, rfl, World.ownsRow_nil _ _ _ _, (Below.refl _ _).alloc (Nat.le_refl _) _, by simp [World.iter]⟩
  case round =>
    obtain ⟨p, f, acc, hit, hf, hacc, hp, h1, h2, hown, hb, hsz⟩ := hrel
    have H1 := Lib.hid h1
    have H2 := Lib.hid h2
    clear h1 h2
    by_cases hlt : p < s.size
    · have hn := fun ty => Lib.run_next_any_at (P := Try.prog) _ _ s p ty hit hlt
      obtain ⟨f, rfl⟩ : ∃ f', f = f' + 1 := ⟨f - 1, by omega⟩
      by_cases ho : (Utf8.decode s p).1 = 65533 ∧ (Utf8.decode s p).2 = 1
      · have HO := Lib.hid ho
        clear ho
        go_wp2_with (go_at_call 22; refine (isOdd_dec _ _ _ hs hlt true (decide_eq_true HO.out)).mono ?_; rintro e w' ⟨rfl, rfl⟩)
        go_ret2
        rw [eachGo_odd s f p hlt HO.out] at H1 H2
        exact ⟨u2, by rw [← H2.out]; rfl, by rw [← H1.out]; simpa using own_weaken (ownsRow_iterAt hown (by omega) _ _) (Nat.le_succ _), Lib.below_iterAt hb (Nat.le_refl _) _ _⟩
      · have HO := Lib.hid ho
        clear ho
        have hw := dec_width s p hlt
        have hsz' : w.heap.size + 1 ≤ (wr.iterAt w.heap.size s (p + (Utf8.decode s p).2)).heap.size := by rw [Lib.iterAt_size]; exact hsz
        have hb' := Lib.below_iterAt hb (Nat.le_refl _) s (p + (Utf8.decode s p).2)
        have hit' := Lib.iterAt_heap wr _ s p (p + (Utf8.decode s p).2) hit
        have hown' := ownsRow_iterAt hown (Nat.lt_succ_self _) s (p + (Utf8.decode s p).2)
        have HI := Lib.hid hit'
        clear hit'
        go_wp2_with (first
          | (go_at_call 22; refine (isOdd_dec _ _ _ hs hlt false (decide_eq_false HO.out)).mono ?_; rintro e w' ⟨rfl, rfl⟩)
          | (at_builtin; refine wpList_append_own _ rfl _ _ 39 rfl (w.heap.size + 1) 43 i0 _ 2 16 Try.underlying39 hi hz0 hz1 hz2 rfl (by decide) _ _ _ rfl (hown'.alloc _) ⟨(wr.iterAt w.heap.size s (p + (Utf8.decode s p).2)).heap.size, 0, none⟩ 1 1 [.int .i32 (Utf8.decode s p).1, .int .i64 p] rfl rfl ?c1 ?c2 ?c3 ?c4 ?c5 ?_))
        case c1 => exact cells_new _ _ _ _ rfl
        case c2 => intro u hu; simp at hu; rcases hu with rfl | rfl <;> rfl
        case c3 => unfold maxLen; omega
        case c4 => omega
        case c5 => simp; omega
        intro v' w1 hown1 hgrow1 _
        have hbA := below_own ((hb'.alloc (by omega) _)) (hown'.alloc _) hgrow1 (Nat.le_succ _) (by simp; omega)
        have hitA := (grown_other (hown'.alloc _) hgrow1 (Nat.lt_succ_self _) (by simp; omega)).trans ((alloc_keep _ _ (Nat.lt_of_succ_le hsz')).trans HI.out)
        have hszA := hgrow1.size
        go_wp2
        go_roundw
        case rel =>
          refine ⟨p + (Utf8.decode s p).2, f, acc ++ [((Utf8.decode s p).1, p)], hitA, by omega, by simp; omega, by omega, ?_, ?_, ?_, hbA, ?_⟩
          · rw [← H1.out, eachGo_step s f p hlt HO.out]; simp
          · rw [← H2.out, eachGo_step s f p hlt HO.out]
          · rw [← runeCells_snoc]; simpa using hown1
          · simp at hszA; omega
        case measure => rw [iterPos_of hitA, iterPos_of hit]; omega
    · have hn := fun ty => Lib.run_next_end_at (P := Try.prog) _ _ s p ty hit hlt
      go_wp2
      go_ret2
      rw [eachGo_end s f p hlt] at H1 H2
      exact ⟨u2, by rw [← H2.out]; rfl, by rw [← H1.out]; simpa using own_weaken hown (Nat.le_succ _), hb⟩

end Go.Proofs.Ytcccnnfmhdogoaa
