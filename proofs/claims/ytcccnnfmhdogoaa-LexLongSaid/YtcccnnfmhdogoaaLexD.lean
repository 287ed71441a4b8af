/-
  The lexer of 'lex': 'name'.
-/
import Derived.Test.YtcccnnfmhdogoaaLexC
import Derived.StillTailTactics
import Derived.Deep.RegionHeld3
import Derived.Deep.RegionWith
namespace Go.Proofs.Ytcccnnfmhdogoaa
open Go Go.RowKit
set_option linter.unusedVariables false
attribute [local go_sem] drewN_alloc drewN_setCell

/-- How many runes go on with a name. -/
def moreN : List (Nat × Nat) → Nat
  | [] => 0
  | (c, _) :: r => if moreB c then moreN r + 1 else 0
theorem moreN_le : ∀ r : List (Nat × Nat), moreN r ≤ r.length := by
  intro r
  induction r with
  | nil => simp [moreN]
  | cons x r ih =>
    obtain ⟨c, a⟩ := x
    rw [moreN]
    split
    · simp; omega
    · omega

def NamePost (w : World) (g : Nat) (s : ByteArray) (A : Option Addr) (cap : Nat) (L : List (Nat × Nat)) (bad : Option Nat) (n m : Nat) (e : Ending) (w' : World) : Prop :=
  e = .returned (.tuple #[.agg #[.int .i64 (if hasStr wordsL (s.extract (placeAt s bad L n) (placeAt s bad L m)) then 3 else 1), .string (s.extract (placeAt s bad L n) (placeAt s bad L m)), .int .i64 0, .int .i64 (placeAt s bad L n)],
    .bool (decide (count (s.extract (placeAt s bad L n) (placeAt s bad L m)) ≤ 12))]) ∧ w.grownBy w' (some g) ∧ LexAt w' g s A cap L bad m

set_option maxHeartbeats 1000000 in
theorem name_at (w : World) (g : Nat) (s : ByteArray) (A : Option Addr) (cap : Nat) (L : List (Nat × Nat)) (bad : Option Nat) (n : Nat) (h : LexAt w g s A cap L bad n) :
    Calls Try.prog 25 #[.pointer (some ⟨g, 0, none⟩)] w (NamePost w g s A cap L bad n (n + moreN (L.drop n))) := by
  go_enter Try.func25, Try.ntmps25
  go_wp2_with fail
  refine (at_at _ g s _ cap L bad n (h.kept ((Below.refl _ _).alloc (Nat.le_refl _) _))).mono ?_
  rintro e w1 ⟨rfl, m, rfl⟩
  go_wp2_with fail
  go_loopg [] (L.length - n) (fun q wr => ∃ k : Nat, q = L.length - k ∧ k ≤ L.length ∧ n ≤ k ∧ LexAt wr g s A cap L bad k ∧ w.grownBy wr (some g) ∧ k + moreN (L.drop k) = n + moreN (L.drop n) ∧
    wr.heap[w.heap.size]? = some (.cells #[.int .i64 0, .string ⟨#[]⟩, .int .i64 0, .int .i64 0] 35 (0, 0)) ∧ w.heap.size < wr.heap.size)
  case atStart =>
    exact ⟨n, rfl, h.le, Nat.le_refl _, (h.kept ((Below.refl _ _).alloc (Nat.le_refl _) _)).drewN _, gb_drewN (gb_alloc (World.grownBy.refl _ _) _) _, rfl, heap_alloc_new w _, by simp⟩
  case round =>
    obtain ⟨k, rfl, hk, hnk, hx, hgb, hcount, hB, hsz⟩ := hrel
    have c3 := hx.c3
    have hfew := hx.few
    have HX := Lib.hid hx
    have HCO := Lib.hid hcount
    have HBL := Lib.hid hB
    have hf := hx.fz 3
    have hglt := h.lt
    have H := Lib.hid h
    clear hx hcount h hB
    cases hmore : moreAt L k with
    | true =>
      have hn : k < L.length := by
        rcases Nat.lt_or_ge k L.length with h | h
        · exact h
        · simp [moreAt, List.getElem?_eq_none h] at hmore
      have hd := Lib.hid (drop_at L k hn)
      have hm : moreB ((L[k]'hn).1 : Int) = true := by simpa [moreAt, hn] using hmore
      have HM := Lib.hid hm
      have HMA := Lib.hid hmore
      clear hm hmore
      go_wp2_with fail
      refine (isMore_at _ g s _ cap L bad k HX.out).mono ?_
      rw [HMA.out]
      rintro e w1 ⟨rfl, m1, rfl⟩
      go_wp2
      go_roundg (L.length - (k + 1))
      case measure => omega
      case rel =>
        refine ⟨k + 1, rfl, hn, by omega, ?_, ?_, ?_, ?_, ?_⟩
        · have := (HX.out.put (n' := k + 1) hn).drewN m1
          simpa using this
        · exact gb_drewN (gb_setCell hgb 3 (.int .i64 ((k : Int) + 1))) m1
        · rw [← HCO.out, hd.out, moreN, if_pos HM.out]
          omega
        · exact (Below.heap_setCell wr ⟨g, 3, none⟩ _ w.heap.size (by simp; omega)).trans HBL.out
        · simpa [World.setCell] using hsz
    | false =>
      have HMA := Lib.hid hmore
      have hk2 : n + moreN (L.drop n) = k := by
        rw [← HCO.out]
        rcases Nat.lt_or_ge k L.length with h | h
        · rw [drop_at L k h, moreN, if_neg]
          · rfl
          · simpa [moreAt, h] using hmore
        · rw [List.drop_eq_nil_of_le h]
          rfl
      have HK := Lib.hid hk2
      clear hmore hk2
      go_wp2_with fail
      refine (isMore_at _ g s _ cap L bad k HX.out).mono ?_
      rw [HMA.out]
      rintro e w1 ⟨rfl, m1, rfl⟩
      go_wp2_with fail
      have hpl := placeAt_mono s n k hnk
      have hrun := HX.out.run
      rw [← hrun.1, ← hrun.2] at hpl
      have hss := HX.out.size
      have H1 : LexAt (wr.drewN m1) g s A cap L bad k := HX.out.drewN m1
      have HX1 := Lib.hid H1
      have c0 := H1.c0
      have hgb1 := gb_drewN hgb m1
      have hB1 : (wr.drewN m1).heap[w.heap.size]? = _ := HBL.out
      have HB1 := Lib.hid hB1
      have hsz1 : w.heap.size < (wr.drewN m1).heap.size := hsz
      clear hrun H1 hgb hB1 hsz HBL c3 hf HX HMA HCO
      generalize wr.drewN m1 = w1 at *
      obtain ⟨P0, hP0⟩ : ∃ P0, placeAt s bad L n = P0 := ⟨_, rfl⟩
      obtain ⟨P1, hP1⟩ : ∃ P1, placeAt s bad L k = P1 := ⟨_, rfl⟩
      rw [hP0, hP1] at hpl
      have hAt := fun (W : World) (h : LexAt W g s A cap L bad k) => at_at W g s A cap L bad k h
      rw [hP1] at hAt
      have HAT := Lib.hid hAt
      have HP0 := Lib.hid hP0
      have HP1 := Lib.hid hP1
      rw [hP0]
      clear hAt hP0 hP1
      obtain ⟨hpl1, hpl2⟩ := hpl
      go_cut [5] (fun t5 wx => ∃ t : Nat, t5 = .pointer (some ⟨t, 0, none⟩) ∧ wx.heap[t]? = some (.cells #[.int .i64 1, .string (s.extract P0 P1), .int .i64 0, .int .i64 P0] 35 (0, 0)) ∧
        LexAt wx g s A cap L bad k ∧ w.grownBy wx (some g) ∧ wx.heap[w.heap.size]? = some (.cells #[.int .i64 0, .string ⟨#[]⟩, .int .i64 0, .int .i64 0] 35 (0, 0)) ∧ w.heap.size < t ∧ w.heap.size < wx.heap.size)
      case first =>
        have hne := World.new_ne w1 _ c0
        go_region_held3 (fun w' => w'.cell? ⟨g, 0, none⟩ = some (.string s)) (go_keep)
          (first | (go_at_call 19; refine (HAT.out _ (by first | exact HX1.out.drew | exact (HX1.out.drew).alloc _)).mono ?_; rintro e w' ⟨rfl, m, rfl⟩))
        all_goals
          go_wp2_with fail
          go_meet
          exact ⟨w1.heap.size, rfl, heap_alloc_new w1 _, (HX1.out.alloc _).drewN _, gb_drewN (gb_alloc hgb1 _) _, (alloc_keep w1 _ hsz1).trans HB1.out, hsz1, by simp; omega⟩
      case rest =>
        obtain ⟨t, rfl, htb, hx2, hgb2, hB2, ht, hsz2⟩ := hcut
        clear hgb1 HB1 hsz1 HX1 c0 HAT
        have ct : wc.cell? ⟨t, 1, none⟩ = some (.string (s.extract P0 P1)) := cell_of_row wc t 1 _ _ _ htb
        have htl : t < wc.heap.size := (Array.getElem?_eq_some_iff.1 htb).1
        have HTB := Lib.hid htb
        have HX2 := Lib.hid hx2
        have HB2 := Lib.hid hB2
        clear htb hx2 hB2
        generalize htx : s.extract P0 P1 = text at *
        have HTX := Lib.hid htx
        clear htx
        go_wp2_with fail
        go_cut [30] (fun c30 wx => c30 = .bool (hasStr wordsL text) ∧ Below wc.heap.size wc wx)
        case first =>
          go_region_held3 (fun w' => w'.cell? ⟨t, 1, none⟩ = some (.string text)) (first | go_keep | exact (hbw.cell htl).trans ct)
            (first
              | (go_at_call 13; refine (words_any _).mono ?_; rintro e w2 ⟨rfl, hs, hbw, hsz⟩)
              | (go_at_call 30; refine (contains_any _ _ _ wordsL _ hs (by decide) (by decide)).mono ?_; rintro e w3 ⟨rfl, rfl⟩))
          all_goals
            go_wp2_with fail
            go_meet
            exact ⟨rfl, (bel_drew (Below.refl _ _)).trans hbw⟩
        case rest =>
          obtain ⟨rfl, hbw⟩ := hcut
          have hgb3 := gb_below hgb2 hbw
          have hT3 := (hbw.block t htl).trans HTB.out
          have hB3 := (hbw.block _ hsz2).trans HB2.out
          have hG3 := (hbw.block g HX2.out.lt).trans HX2.out.blk
          have hsz3 := Nat.lt_of_lt_of_le hsz2 hbw.size
          have htl3 := Nat.lt_of_lt_of_le htl hbw.size
          clear hgb2 HTB HB2 HX2 hsz2 htl ct hbw
          have hcz : text.size ≤ 100000 := by rw [← HTX.out]; simp; omega
          have hcn : (count text : Int) ≤ 100000 := by
            have := countGo_le text text.size 0
            unfold count
            omega
          have t0 := cell_of_row _ t 0 _ _ _ hT3
          have t1 := cell_of_row _ t 1 _ _ _ hT3
          have t2 := cell_of_row _ t 2 _ _ _ hT3
          have t3 := cell_of_row _ t 3 _ _ _ hT3
          have tf : ∀ o, wc.frozen? ⟨t, o, none⟩ = false := fun o => by simp [World.frozen?, hT3]
          simp at t0 t1 t2 t3
          have HB3 := Lib.hid hB3
          have HG3 := Lib.hid hG3
          have HT3 := Lib.hid hT3
          clear hB3 hG3 hT3
          obtain ⟨kd, hkd⟩ : ∃ kd : Int, (if hasStr wordsL text then 3 else 1) = kd := ⟨_, rfl⟩
          have HKD := Lib.hid hkd
          clear hkd
          obtain ⟨W3, rfl⟩ : ∃ W3 : World, wc = W3 := ⟨_, rfl⟩
          go_upto_if 30 with (fail)
          go_cut [30] (fun _ wx => wx.heap[t]? = some (.cells #[.int .i64 kd, .string text, .int .i64 0, .int .i64 P0] 35 (0, 0)) ∧
            wx.heap[w.heap.size]? = some (.cells #[.int .i64 0, .string ⟨#[]⟩, .int .i64 0, .int .i64 0] 35 (0, 0)) ∧
            wx.heap[g]? = some (.cells #[.string s, .slice A L.length cap, .int .i64 (badInt bad), .int .i64 k] 46 (0, 0)) ∧ w.grownBy wx (some g))
          case first =>
            have tf0 := tf 0
            cases hk : hasStr wordsL text with
            | true =>
              rw [hk] at HKD
              obtain rfl : 3 = kd := HKD.out
              go_wp2
              go_meet
              refine ⟨heap_put HT3.out 0 _, ?_, ?_, gb_setNew hgb3 (by simp; omega) _⟩
              · exact (Below.heap_setCell _ _ _ _ (by simp; omega)).trans HB3.out
              · exact (Below.heap_setCell _ _ _ _ (by simp; omega)).trans HG3.out
            | false =>
              rw [hk] at HKD
              obtain rfl : 1 = kd := HKD.out
              go_wp2
              go_meet
              exact ⟨HT3.out, HB3.out, HG3.out, hgb3⟩
          case rest =>
            obtain ⟨hT4, hB4, hG4, hgb4⟩ := hcut
            clear t0 t1 t2 t3 tf HT3 HB3 HG3 hgb3
            have hgl : g < wc.heap.size := (Array.getElem?_eq_some_iff.1 hG4).1
            have htl : t < wc.heap.size := (Array.getElem?_eq_some_iff.1 hT4).1
            have hbl : w.heap.size < wc.heap.size := (Array.getElem?_eq_some_iff.1 hB4).1
            have t0 := cell_of_row _ t 0 _ _ _ hT4
            have t1 := cell_of_row _ t 1 _ _ _ hT4
            have t2 := cell_of_row _ t 2 _ _ _ hT4
            have t3 := cell_of_row _ t 3 _ _ _ hT4
            simp at t0 t1 t2 t3
            have HB4 := Lib.hid hB4
            have HG4 := Lib.hid hG4
            have htne : t ≠ w.heap.size := by omega
            clear hT4 hB4 hG4
            go_wp2_with fail
            go_region_with (first
              | (go_at_call 31; refine (length_any text _ hcz).mono ?_; rintro e w4 ⟨rfl, hb4⟩; have B4 := (hb4.block _ hbl).trans HB4.out; have b0 := cell_of_row w4 _ 0 _ _ _ B4; have b1 := cell_of_row w4 _ 1 _ _ _ B4; have b2 := cell_of_row w4 _ 2 _ _ _ B4; have b3 := cell_of_row w4 _ 3 _ _ _ B4; have bf : ∀ o, w4.frozen? ⟨w.heap.size, o, none⟩ = false := (fun o => by simp [World.frozen?, B4]); simp at b0 b1 b2 b3; have HB5 := Lib.hid B4; clear B4; have s0 := (hb4.cell (p := ⟨t, 0, none⟩) htl).trans t0; have s1 := (hb4.cell (p := ⟨t, 1, none⟩) htl).trans t1; have s2 := (hb4.cell (p := ⟨t, 2, none⟩) htl).trans t2; have s3 := (hb4.cell (p := ⟨t, 3, none⟩) htl).trans t3))
            all_goals
              go_wp2
              have hF := heap_put (heap_put (heap_put (heap_put HB5.out 0 (.int .i64 kd)) 1 (.string text)) 2 (.int .i64 0)) 3 (.int .i64 P0)
              have r0 := cell_of_row _ w.heap.size 0 _ _ _ hF
              have r1 := cell_of_row _ w.heap.size 1 _ _ _ hF
              have r2 := cell_of_row _ w.heap.size 2 _ _ _ hF
              have r3 := cell_of_row _ w.heap.size 3 _ _ _ hF
              have r0 : _ = some (Value.int .i64 kd) := r0
              have r1 : _ = some (Value.string text) := r1
              have r2 : _ = some (Value.int .i64 0) := r2
              have r3 : _ = some (Value.int .i64 P0) := r3
              refine bodyPost_ret (v := .tuple #[.agg #[.int .i64 kd, .string text, .int .i64 0, .int .i64 P0], .bool (decide ((count text : Int) ≤ 12))]) (by simp [results, Try.results25, go_sem, r0, r1, r2, r3]) rfl ?_
              have hb5 : Below wc.heap.size wc w4 := (bel_drew (Below.refl _ _)).trans hb4
              have G : w.grownBy _ (some g) := gb_setNew (gb_setNew (gb_setNew (gb_setNew (gb_below hgb4 hb5) (p := ⟨w.heap.size, 0, none⟩) (Nat.le_refl _) (.int .i64 kd)) (p := ⟨w.heap.size, 1, none⟩) (Nat.le_refl _) (.string text)) (p := ⟨w.heap.size, 2, none⟩) (Nat.le_refl _) (.int .i64 0)) (p := ⟨w.heap.size, 3, none⟩) (Nat.le_refl _) (.int .i64 P0)
              refine ⟨?_, G, H.out.next G (by rw [HK.out]; exact hk) ?_⟩
              · rw [HK.out, HP0.out, HP1.out, HTX.out, HKD.out, show decide ((count text : Int) ≤ 12) = decide (count text ≤ 12) by rw [decide_eq_decide]; omega]
              · rw [HK.out, heap_set4 (by omega)]
                exact (hb5.block g hgl).trans HG4.out

end Go.Proofs.Ytcccnnfmhdogoaa
