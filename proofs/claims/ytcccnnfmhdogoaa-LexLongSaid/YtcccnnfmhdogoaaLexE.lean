/-
  The lexer of 'lex': 'number'.
-/
import Derived.Test.YtcccnnfmhdogoaaLexC
import Derived.StillTailTactics
import Derived.Deep.RegionWith
import Derived.BigRegion
namespace Go.Proofs.Ytcccnnfmhdogoaa
open Go Go.RowKit
set_option linter.unusedVariables false
attribute [local go_sem] drewN_alloc drewN_setCell

/-- The number that digits are, held at a cap. -/
def numCap (cap : Nat) : Nat → List (Nat × Nat) → Nat
  | acc, [] => acc
  | acc, (c, _) :: r => if digitB c then numCap cap (min (acc * 10 + (c - 48)) cap) r else acc
def digN : List (Nat × Nat) → Nat
  | [] => 0
  | (c, _) :: r => if digitB c then digN r + 1 else 0

theorem classOf_two {r : Int} : classOf r = 2 ↔ digitB r = true := by
  constructor
  · intro h
    unfold classOf at h
    by_cases h1 : letterB r = true
    · simp [h1] at h
    · by_cases h2 : digitB r = true
      · exact h2
      · rw [if_neg h1, if_neg h2] at h
        split at h
        · simp at h
        · split at h <;> simp at h
  · intro h
    have h1 : letterB r = false := by
      simp only [digitB, decide_eq_true_eq] at h
      simp only [letterB, decide_eq_false_iff_not]
      omega
    exact classOf_digit h1 h

def NumPost (w : World) (g : Nat) (s : ByteArray) (A : Option Addr) (cap : Nat) (L : List (Nat × Nat)) (bad : Option Nat) (n : Nat) (first : Nat) (e : Ending) (w' : World) : Prop :=
  e = .returned (.tuple #[.agg #[.int .i64 2, .string ⟨#[]⟩, .int .i64 (numCap 100 0 (L.drop n)), .int .i64 (placeAt s bad L n)],
    .bool (decide (numCap 100 0 (L.drop n) ≤ 99) && (decide (first ≠ 48) || decide (digN (L.drop n) = 1)))]) ∧ w.grownBy w' (some g) ∧ LexAt w' g s A cap L bad (n + digN (L.drop n))

set_option maxHeartbeats 1000000 in
theorem number_at (w : World) (g : Nat) (s : ByteArray) (A : Option Addr) (cap : Nat) (L : List (Nat × Nat)) (bad : Option Nat) (n : Nat) (h : LexAt w g s A cap L bad n) (hn0 : n < L.length) :
    Calls Try.prog 26 #[.pointer (some ⟨g, 0, none⟩)] w (NumPost w g s A cap L bad n (L[n]).1) := by
  have hrun := h.run
  have hpl := (placeAt_mono s n n (Nat.le_refl _)).2
  rw [← hrun.1, ← hrun.2] at hpl
  have hss := h.size
  clear hrun
  go_enter Try.func26, Try.ntmps26
  go_wp2_with fail
  refine (at_at _ g s _ cap L bad n (h.alloc _)).mono ?_
  rintro e w1 ⟨rfl, m, rfl⟩
  obtain ⟨P0, hP0⟩ : ∃ P0, placeAt s bad L n = P0 := ⟨_, rfl⟩
  rw [hP0] at hpl ⊢
  have HP0 := Lib.hid hP0
  clear hP0
  obtain ⟨j, rfl, hj, e1, e2⟩ := h.rune hn0
  have c1 := h.c1
  have c3 := h.c3
  have hcl := h.cap_le
  have hfew := h.few
  have hglt := h.lt
  have hgl2 := h.lt
  clear e2
  obtain ⟨R0, hR0⟩ : ∃ R0, (L[n]'hn0).1 = R0 := ⟨_, rfl⟩
  rw [hR0] at e1
  have HR0 := Lib.hid hR0
  clear hR0
  have k1 := (World.cell?_alloc_lt w (.cells #[.int .i64 0, .string ⟨#[]⟩, .int .i64 0, .int .i64 0] 35) ⟨g, 1, none⟩ hglt).trans c1
  have k3 := (World.cell?_alloc_lt w (.cells #[.int .i64 0, .string ⟨#[]⟩, .int .i64 0, .int .i64 0] 35) ⟨g, 3, none⟩ hglt).trans c3
  have ke := (World.cell?_alloc_lt w (.cells #[.int .i64 0, .string ⟨#[]⟩, .int .i64 0, .int .i64 0] 35) ⟨j, n * 2, none⟩ hj).trans e1
  go_wp2_with fail
  go_quiet (fail)
  go_wp2_with fail
  have H := Lib.hid h
  have hdn := Lib.hid (drop_at L n hn0)
  clear c1 c3 k1 k3 ke e1 h hj
  go_loopg [] (L.length - n) (fun q wr => ∃ (k acc : Nat), q = L.length - k ∧ k ≤ L.length ∧ LexAt wr g s (some ⟨j, 0, none⟩) cap L bad k ∧ w.grownBy wr (some g) ∧ acc ≤ 100 ∧
    k + digN (L.drop k) = n + digN (L.drop n) ∧ numCap 100 acc (L.drop k) = numCap 100 0 (L.drop n) ∧
    wr.heap[w.heap.size]? = some (.cells #[.int .i64 0, .string ⟨#[]⟩, .int .i64 0, .int .i64 0] 35 (0, 0)) ∧
    wr.heap[w.heap.size + 1]? = some (.cells #[.int .i64 2, .string ⟨#[]⟩, .int .i64 acc, .int .i64 P0] 35 (0, 0)))
  case atStart =>
    refine ⟨n, 0, rfl, by omega, (((H.out.alloc _).alloc _).drewN _).drewN _, gb_drewN (gb_drewN (gb_alloc (gb_alloc (World.grownBy.refl _ _) _) _) _) _, by omega, rfl, rfl, ?_, ?_⟩
    · exact (alloc_keep (w.alloc _) _ (by simp)).trans (heap_alloc_new w _)
    · have := heap_alloc_new (w.alloc (.cells #[.int .i64 0, .string ⟨#[]⟩, .int .i64 0, .int .i64 0] 35)) (.cells #[.int .i64 2, .string ⟨#[]⟩, .int .i64 0, .int .i64 P0] 35)
      simpa using this
  case round =>
    obtain ⟨k, acc, rfl, hk, hx, hgb, hacc, hcount, hnum, hB, hT⟩ := hrel
    have c1 := hx.c1
    have c3 := hx.c3
    have HX := Lib.hid hx
    have HCO := Lib.hid hcount
    have HNU := Lib.hid hnum
    have HBL := Lib.hid hB
    have HTL := Lib.hid hT
    have hf := hx.fz 3
    have hbl : w.heap.size < wr.heap.size := (Array.getElem?_eq_some_iff.1 hB).1
    have htl : w.heap.size + 1 < wr.heap.size := (Array.getElem?_eq_some_iff.1 hT).1
    have t2 : wr.cell? ⟨w.heap.size + 1, 2, none⟩ = some (.int .i64 acc) := cell_of_row _ _ 2 _ _ _ hT
    have tf : wr.frozen? ⟨w.heap.size + 1, 2, none⟩ = false := by simp [World.frozen?, hT]
    clear hx hcount hnum hB hT
    by_cases hd : ∃ h : k < L.length, digitB ((L[k]).1 : Int) = true
    · obtain ⟨hn, hdg⟩ := hd
      obtain ⟨j', hj', hj, e1, e2⟩ := HX.out.rune hn
      obtain rfl : j = j' := by injection hj' with e; injection e
      have hdr := Lib.hid (drop_at L k hn)
      have hcls : (classAt L k == 2) = true := by
        rw [beq_iff_eq, show classAt L k = classOf (L[k]).1 by simp [classAt, hn]]
        exact classOf_two.2 hdg
      have HD := Lib.hid hdg
      have hr : 48 ≤ (L[k]'hn).1 ∧ (L[k]'hn).1 ≤ 57 := by
        simp only [digitB, decide_eq_true_eq] at hdg
        omega
      clear e2 hdg hj'
      obtain ⟨R, hR⟩ : ∃ R, (L[k]'hn).1 = R := ⟨_, rfl⟩
      rw [hR] at e1 hr
      have HR := Lib.hid hR
      clear hR
      go_wp2_with fail
      refine (class_at _ g s _ cap L bad k HX.out).mono ?_
      rintro e w1 ⟨rfl, m1, rfl⟩
      go_wp2_with fail
      refine wp_region_tail 19 (by kernel_rfl) (by kernel_rfl) ?_
      simp only [List.take_succ_cons, List.take_zero, List.drop_succ_cons, List.drop_zero]
      have hA1 : IntKind.i64.wrap ((acc : Int) * 10) = (acc : Int) * 10 := IntWalk.i64_in _ (by omega)
      have hA2 : IntKind.i32.wrap ((R : Int) - 48) = (R : Int) - 48 := by rw [IntKind.wrap_i32]; omega
      have hA3 : IntKind.i64.wrap ((R : Int) - 48) = (R : Int) - 48 := IntWalk.i64_in _ (by omega)
      have hA4 : IntKind.i64.wrap ((acc : Int) * 10 + ((R : Int) - 48)) = (acc : Int) * 10 + ((R : Int) - 48) := IntWalk.i64_in _ (by omega)
      repeat still_step
      clear hA1 hA2 hA3 hA4
      refine wpStill_nil ?_
      have hn2 : numCap 100 (min (acc * 10 + (R - 48)) 100) (L.drop (k + 1)) = numCap 100 0 (L.drop n) := by
        rw [← HNU.out, hdr.out, numCap, if_pos HD.out, HR.out]
      have hc2 : k + 1 + digN (L.drop (k + 1)) = n + digN (L.drop n) := by
        rw [← HCO.out, hdr.out, digN, if_pos HD.out]
        omega
      have HN2 := Lib.hid hn2
      have HC2 := Lib.hid hc2
      clear hn2 hc2
      go_wp2
      all_goals
        go_roundg (L.length - (k + 1))
        case measure => omega
        case rel =>
          refine ⟨k + 1, min (acc * 10 + (R - 48)) 100, rfl, hn, ?_, ?_, by omega, HC2.out, HN2.out, ?_, ?_⟩
          · exact (H.out.adv (gb_setNew hgb (by simp) _) hn ((Below.heap_setCell _ _ _ _ (by simp; omega)).trans HX.out.blk)).drewN _
          · exact gb_drewN (gb_setCell (gb_setNew hgb (by simp) _) 3 _) _
          · exact (Below.heap_setCell _ ⟨g, 3, none⟩ _ w.heap.size (by simp; omega)).trans ((Below.heap_setCell wr ⟨w.heap.size + 1, 2, none⟩ _ w.heap.size (by simp)).trans HBL.out)
          · refine (Below.heap_setCell _ ⟨g, 3, none⟩ _ (w.heap.size + 1) (by simp; omega)).trans ((heap_put HTL.out 2 _).trans ?_)
            simp
            omega
    · have hne : (classAt L k == 2) = false := by
        rw [beq_eq_false_iff_ne]
        intro h2
        apply hd
        rcases Nat.lt_or_ge k L.length with h | h
        · exact ⟨h, classOf_two.1 (by rw [show classAt L k = classOf (L[k]).1 by simp [classAt, h]] at h2; exact h2)⟩
        · simp [classAt, List.getElem?_eq_none h] at h2
      have hz1 : digN (L.drop k) = 0 := by
        rcases Nat.lt_or_ge k L.length with h | h
        · rw [drop_at L k h, digN, if_neg (fun e => hd ⟨h, e⟩)]
        · rw [List.drop_eq_nil_of_le h]; rfl
      have hz2 : numCap 100 acc (L.drop k) = acc := by
        rcases Nat.lt_or_ge k L.length with h | h
        · rw [drop_at L k h, numCap, if_neg (fun e => hd ⟨h, e⟩)]
        · rw [List.drop_eq_nil_of_le h]; rfl
      have hk2 : k = n + digN (L.drop n) := by rw [← HCO.out, hz1]; rfl
      have hac : numCap 100 0 (L.drop n) = acc := by rw [← HNU.out, hz2]
      have HK2 := Lib.hid hk2
      have HAC := Lib.hid hac
      have hnk : n ≤ k := by omega
      clear hz1 hz2 hk2 hac hd
      have t0 : wr.cell? ⟨w.heap.size + 1, 0, none⟩ = some (.int .i64 2) := cell_of_row _ _ 0 _ _ _ HTL.out
      have t1 : wr.cell? ⟨w.heap.size + 1, 1, none⟩ = some (.string ⟨#[]⟩) := cell_of_row _ _ 1 _ _ _ HTL.out
      have t3 : wr.cell? ⟨w.heap.size + 1, 3, none⟩ = some (.int .i64 P0) := cell_of_row _ _ 3 _ _ _ HTL.out
      have b0 : wr.cell? ⟨w.heap.size, 0, none⟩ = some (.int .i64 0) := cell_of_row _ _ 0 _ _ _ HBL.out
      have b1 : wr.cell? ⟨w.heap.size, 1, none⟩ = some (.string ⟨#[]⟩) := cell_of_row _ _ 1 _ _ _ HBL.out
      have b2 : wr.cell? ⟨w.heap.size, 2, none⟩ = some (.int .i64 0) := cell_of_row _ _ 2 _ _ _ HBL.out
      have b3 : wr.cell? ⟨w.heap.size, 3, none⟩ = some (.int .i64 0) := cell_of_row _ _ 3 _ _ _ HBL.out
      have bf : ∀ o, wr.frozen? ⟨w.heap.size, o, none⟩ = false := fun o => by simp [World.frozen?, HBL.out]
      go_wp2_with fail
      refine (class_at _ g s _ cap L bad k HX.out).mono ?_
      rintro e w1 ⟨rfl, m1, rfl⟩
      have hA1 : IntKind.i64.wrap ((k : Int) - (n : Int)) = (k : Int) - (n : Int) := IntWalk.i64_in _ (by omega)
      have HA1 := Lib.hid hA1
      clear hA1
      have hF := heap_put (heap_put (heap_put (heap_put HBL.out 0 (.int .i64 2)) 1 (.string ⟨#[]⟩)) 2 (.int .i64 acc)) 3 (.int .i64 P0)
      have r0 : _ = some (Value.int .i64 2) := cell_of_row _ w.heap.size 0 _ _ _ hF
      have r1 : _ = some (Value.string ⟨#[]⟩) := cell_of_row _ w.heap.size 1 _ _ _ hF
      have r2 : _ = some (Value.int .i64 acc) := cell_of_row _ w.heap.size 2 _ _ _ hF
      have r3 : _ = some (Value.int .i64 P0) := cell_of_row _ w.heap.size 3 _ _ _ hF
      have G : w.grownBy _ (some g) := gb_setNew (gb_setNew (gb_setNew (gb_setNew hgb (p := ⟨w.heap.size, 0, none⟩) (Nat.le_refl _) (.int .i64 2)) (p := ⟨w.heap.size, 1, none⟩) (Nat.le_refl _) (.string ⟨#[]⟩)) (p := ⟨w.heap.size, 2, none⟩) (Nat.le_refl _) (.int .i64 acc)) (p := ⟨w.heap.size, 3, none⟩) (Nat.le_refl _) (.int .i64 P0)
      have GB := (heap_set4 (w := wr) (b := w.heap.size) (g := g) (by omega) (.int .i64 2) (.string ⟨#[]⟩) (.int .i64 acc) (.int .i64 P0)).trans HX.out.blk
      have HR0' := Lib.hid r0
      have HR1' := Lib.hid r1
      have HR2' := Lib.hid r2
      have HR3' := Lib.hid r3
      have HG' := Lib.hid G
      have HGB' := Lib.hid GB
      clear r0 r1 r2 r3 G GB hF
      have fin : ∀ (b : Bool) (q : Nat), (b = (decide (acc ≤ 99) && (decide (R0 ≠ 48) || decide (digN (L.drop n) = 1)))) →
          NumPost w g s (some ⟨j, 0, none⟩) cap L bad n R0 (.returned (.tuple #[.agg #[.int .i64 2, .string ⟨#[]⟩, .int .i64 acc, .int .i64 P0], .bool b]))
            (((((wr.setCell ⟨w.heap.size, 0, none⟩ (.int .i64 2)).setCell ⟨w.heap.size, 1, none⟩ (.string ⟨#[]⟩)).setCell ⟨w.heap.size, 2, none⟩ (.int .i64 acc)).setCell ⟨w.heap.size, 3, none⟩ (.int .i64 P0)).drewN q) := by
        intro b q hb
        refine ⟨?_, gb_drewN HG'.out _, ?_⟩
        · rw [HAC.out, HP0.out, hb]
        · have := (H.out.next HG'.out (n' := k) hk HGB'.out).drewN q
          rw [← HK2.out]
          exact this
      have FIN := Lib.hid fin
      clear fin
      rcases Nat.lt_or_ge 99 acc with h99 | h99
      · have q1 : decide ((acc : Int) ≤ 99) = false := decide_eq_false (by omega)
        go_wp2_with fail
        go_region
        go_wp2
        have r0 := HR0'.out
        have r1 := HR1'.out
        have r2 := HR2'.out
        have r3 := HR3'.out
        refine bodyPost_ret (v := .tuple #[.agg #[.int .i64 2, .string ⟨#[]⟩, .int .i64 acc, .int .i64 P0], .bool false]) (by simp [results, Try.results26, go_sem, r0, r1, r2, r3]) rfl ?_
        rw [HR0.out]; exact FIN.out _ _ (by rw [decide_eq_false (by omega : ¬ acc ≤ 99)]; rfl)
      · have q1 : decide ((acc : Int) ≤ 99) = true := decide_eq_true (by omega)
        by_cases h48 : R0 = 48
        · have q2 : ((R0 : Int) != 48) = false := by rw [h48]; rfl
          have H48 := Lib.hid h48
          clear h48
          have hA1 := HA1.out
          by_cases h1 : digN (L.drop n) = 1
          · have q3 : ((k : Int) - (n : Int) == 1) = true := by rw [beq_iff_eq]; have := HK2.out; omega
            have H1 := Lib.hid h1
            clear h1
            go_wp2_with fail
            go_region
            go_wp2
            have r0 := HR0'.out
            have r1 := HR1'.out
            have r2 := HR2'.out
            have r3 := HR3'.out
            refine bodyPost_ret (v := .tuple #[.agg #[.int .i64 2, .string ⟨#[]⟩, .int .i64 acc, .int .i64 P0], .bool true]) (by simp [results, Try.results26, go_sem, r0, r1, r2, r3]) rfl ?_
            rw [HR0.out]; exact FIN.out _ _ (by rw [decide_eq_true (by omega : acc ≤ 99), decide_eq_true H1.out]; simp)
          · have q3 : ((k : Int) - (n : Int) == 1) = false := by rw [beq_eq_false_iff_ne]; have := HK2.out; omega
            have H1 := Lib.hid h1
            clear h1
            go_wp2_with fail
            go_region
            go_wp2
            have r0 := HR0'.out
            have r1 := HR1'.out
            have r2 := HR2'.out
            have r3 := HR3'.out
            refine bodyPost_ret (v := .tuple #[.agg #[.int .i64 2, .string ⟨#[]⟩, .int .i64 acc, .int .i64 P0], .bool false]) (by simp [results, Try.results26, go_sem, r0, r1, r2, r3]) rfl ?_
            rw [HR0.out]; exact FIN.out _ _ (by rw [decide_eq_false H1.out, H48.out]; simp)
        · have q2 : ((R0 : Int) != 48) = true := by rw [bne_iff_ne]; omega
          have H48 := Lib.hid h48
          clear h48
          go_wp2_with fail
          go_region
          go_wp2
          have r0 := HR0'.out
          have r1 := HR1'.out
          have r2 := HR2'.out
          have r3 := HR3'.out
          refine bodyPost_ret (v := .tuple #[.agg #[.int .i64 2, .string ⟨#[]⟩, .int .i64 acc, .int .i64 P0], .bool true]) (by simp [results, Try.results26, go_sem, r0, r1, r2, r3]) rfl ?_
          rw [HR0.out]; exact FIN.out _ _ (by rw [decide_eq_true (by omega : acc ≤ 99), decide_eq_true H48.out]; simp)

end Go.Proofs.Ytcccnnfmhdogoaa
