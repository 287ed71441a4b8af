/-
  The walk of 'LexWords': it returns true.
-/
import Derived.StillTailTactics
import Derived.Test.YtcccnnfmhdogoaaLexS
namespace Go.Proofs.Ytcccnnfmhdogoaa
open Go Go.RowKit
set_option linter.unusedVariables false
attribute [local go_sem] drewN_alloc drewN_setCell

/-- Two tokens, the first of that kind and that text. -/
def oneTok (s : ByteArray) (kind : Int) (r : List TokR × Nat × Int) : Bool := match r with
  | ([a, _], _, e) => e == 0 && a.kind == kind && sameStr a.text s
  | _ => false
def wordW (k : Nat) : ByteArray := wordsL.getD k ByteArray.empty
def wordX (k : Nat) : ByteArray := wordW k ++ ⟨#[120]⟩
theorem words_ok : (List.range 17).all (fun k => oneTok (wordW k) 3 (tokens (wordW k)) && oneTok (wordX k) 1 (tokens (wordX k)) && decide ((wordX k).size ≤ 100) && decide ((wordW k).size ≤ 100)) = true := by decide +kernel
theorem oneTok_shape {s : ByteArray} {kind : Int} {r : List TokR × Nat × Int} (h : oneTok s kind r = true) : ∃ a b p, r = ([a, b], p, 0) ∧ a.kind = kind ∧ a.text = s := by
  unfold oneTok at h
  split at h
  · simp only [Bool.and_eq_true, beq_iff_eq] at h
    obtain ⟨⟨rfl, h2⟩, h3⟩ := h
    exact ⟨_, _, _, rfl, h2, (sameStr_iff _ _).1 h3⟩
  · exact absurd h (by decide)

set_option maxHeartbeats 4000000 in
theorem walk_lexWords (i : Int) (w : World) (hi : -9223372036854775808 ≤ i ∧ i ≤ 9223372036854775807) :
    Calls Try.prog 5 #[.int .i64 i] w fun e w' => e = .returned (.bool true) ∧ Below w.heap.size w w' := by
  by_cases h : 0 ≤ i ∧ i < 17
  · obtain ⟨k, rfl⟩ : ∃ k : Nat, i = k := ⟨i.toNat, by omega⟩
    have hk : k < 17 := by omega
    have hok := (List.all_eq_true.1 words_ok) k (List.mem_range.2 hk)
    simp only [Bool.and_eq_true, decide_eq_true_iff] at hok
    obtain ⟨⟨⟨h1, h2⟩, hx2⟩, hx1⟩ := hok
    obtain ⟨a, b, p, e1, ka, ta⟩ := oneTok_shape h1
    obtain ⟨c, d, q, e2, kc, tc⟩ := oneTok_shape h2
    have hX : wordX k = wordW k ++ ⟨#[120]⟩ := rfl
    rw [hX] at e2 tc hx2
    have hcell : ∀ (W : World) (g : Nat), StrsAt W g wordsL → W.cell? ⟨g, k, none⟩ = some (.string (wordW k)) := fun W g h => h k hk
    clear h1 h2 hX
    generalize wordW k = x at *
    have E1 := Lib.hid e1
    have E2 := Lib.hid e2
    have HC := Lib.hid hcell
    clear e1 e2 hcell h
    have hq1 : (x.toList == x.toList) = true := by simp
    have hq2 : ((x ++ ⟨#[120]⟩).toList == (x ++ ⟨#[120]⟩).toList) = true := by simp
    go_enter Try.func5, Try.ntmps5
    go_wp2_with fail
    refine (refWords_any _).mono ?_
    rintro e w1 ⟨rfl, hs1, hb1, hz1⟩
    go_wp2_with fail
    refine (words_any _).mono ?_
    rintro e w2 ⟨rfl, hs2, hb2, hz2⟩
    have c1 := (hb2.cell (p := ⟨w.heap.size, k, none⟩) hz1).trans (HC.out _ _ hs1)
    have c2 := HC.out _ _ hs2
    have hwl : wordsL.length = 17 := rfl
    have hb02 := below_join hb1 hb2 hb1.size
    have hz12 : w.heap.size < w2.heap.size := Nat.lt_of_lt_of_le hz1 hb2.size
    have HB02 := Lib.hid hb02
    clear hs1 hs2 hb1 hb2 hb02
    go_wp2_with fail
    go_region
    go_wp2_with fail
    refine (tokens_any _ _ (by omega)).mono ?_
    rintro e w3 ⟨v1, rfl, hown1, hb3⟩
    rw [E1.out] at hown1 ⊢
    obtain ⟨g1, cap1, rfl, hg1a, hg1b, hg1c, k10, k11, -, -⟩ := two_row hown1
    rw [ka] at k10
    rw [ta] at k11
    have d1 := (hb3.cell (p := ⟨w.heap.size, k, none⟩) hz12).trans c1
    have d2 := (hb3.cell (p := ⟨w1.heap.size, k, none⟩) hz2).trans c2
    have hb03 := below_join (bel_drewN HB02.out 1) hb3 (Nat.le_of_lt hz12)
    have hz3 : w2.heap.size ≤ w3.heap.size := hb3.size
    have HB03 := Lib.hid hb03
    clear c1 c2 hb03 hown1 hb3
    go_wp2_with fail
    refine (tokens_any _ _ (by omega)).mono ?_
    rintro e w4 ⟨v2, rfl, hown2, hb4⟩
    rw [E2.out] at hown2 ⊢
    obtain ⟨g2, cap2, rfl, hg2a, hg2b, hg2c, k20, k21, -, -⟩ := two_row hown2
    rw [kc] at k20
    rw [tc] at k21
    have f1 := (hb4.cell (p := ⟨w.heap.size, k, none⟩) (Nat.lt_of_lt_of_le hz12 hz3)).trans d1
    have f2 := (hb4.cell (p := ⟨g1, 0, none⟩) hg1c).trans k10
    have f3 := (hb4.cell (p := ⟨g1, 1, none⟩) hg1c).trans k11
    have hb04 := below_join HB03.out hb4 (by omega)
    have HB04 := Lib.hid hb04
    have hz4 := hb4.size
    clear d1 d2 k10 k11 hown2 hb4 hb04
    go_wp2_with fail
    have hcat : ¬ 9223372036854775807 < x.size + 1 := by omega
    refine wp_region_tail 54 (by kernel_rfl) (by kernel_rfl) ?_
    simp only [List.take_succ_cons, List.take_zero, List.drop_succ_cons, List.drop_zero]
    repeat still_step
    refine wpStill_nil ?_
    clear f1 f2 f3 k20 k21 hcat
    go_wp2_with fail
    refine (known2 _).mono ?_
    rintro e w5 ⟨rfl, hb5⟩
    go_wp2
    go_ret
    exact ⟨rfl, below_join (bel_drewN HB04.out 1) hb5 (by have := HB04.out.size; exact this)⟩
  · go_enter Try.func5, Try.ntmps5
    go_wp2_with fail
    refine (refWords_any _).mono ?_
    rintro e w1 ⟨rfl, hs1, hb1, hz1⟩
    go_wp2_with fail
    refine (words_any _).mono ?_
    rintro e w2 ⟨rfl, hs2, hb2, hz2⟩
    have hwl : wordsL.length = 17 := rfl
    go_wp2
    all_goals go_ret
    all_goals exact ⟨rfl, below_join hb1 hb2 hb1.size⟩

end Go.Proofs.Ytcccnnfmhdogoaa
