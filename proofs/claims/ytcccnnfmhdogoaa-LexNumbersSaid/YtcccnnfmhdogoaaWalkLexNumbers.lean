/-
  The walk of 'LexNumbers': it returns true.
-/
import Derived.StillTailTactics
import Derived.Laws.IdiomStrings
import Derived.Test.YtcccnnfmhdogoaaLexN
namespace Go.Proofs.Ytcccnnfmhdogoaa
open Go Go.RowKit
set_option linter.unusedVariables false
attribute [local go_sem] drewN_alloc drewN_setCell

theorem app1 (c : UInt8) (s : List UInt8) : (⟨⟨[c]⟩⟩ : ByteArray) ++ ⟨⟨s⟩⟩ = ⟨⟨c :: s⟩⟩ := by
  apply ByteArray.ext
  simp [ByteArray.data_append]
theorem below_alloc {B : Nat} {a b : World} (h : Below B a b) (hB : B ≤ a.heap.size) (o : Obj) : Below B a (b.alloc o) := below_join h ((Below.refl b.heap.size b).alloc (Nat.le_refl _) o) (Nat.le_trans hB h.size)

set_option maxHeartbeats 4000000 in
theorem walk_lexNumbers (i j : Int) (w : World) (hi : -9223372036854775808 ≤ i ∧ i ≤ 9223372036854775807) (hj : -9223372036854775808 ≤ j ∧ j ≤ 9223372036854775807) :
    Calls Try.prog 6 #[.int .i64 i, .int .i64 j] w fun e w' => e = .returned (.bool true) ∧ Below w.heap.size w w' := by
  by_cases h : (0 ≤ i ∧ i ≤ 1000) ∧ (0 ≤ j ∧ j ≤ 3)
  · obtain ⟨n, rfl⟩ : ∃ n : Nat, i = n := ⟨i.toNat, by omega⟩
    obtain ⟨z, rfl⟩ : ∃ z : Nat, j = z := ⟨j.toNat, by omega⟩
    have hn : n ≤ 1000 := by omega
    have hz : z ≤ 3 := by omega
    clear h hi hj
    go_enter Try.func6, Try.ntmps6
    go_wp2_with fail
    go_loopg [5, 6] 5 (fun q v5 v6 wr => ∃ (k : Nat) (s : List UInt8), v5 = .string ⟨⟨s⟩⟩ ∧ v6 = .int .i64 k ∧ Below w.heap.size w wr ∧ digs q k s = digs 5 n [] ∧ q + s.length = 5 ∧ k < 10 ^ q)
    case atStart => exact ⟨n, [], rfl, rfl, Below.refl _ _, rfl, rfl, by omega⟩
    case round =>
      obtain ⟨k, s, rfl, rfl, hb, hdig, hlen, hk⟩ := hrel
      have HD := Lib.hid hdig
      clear hdig
      by_cases hgo : 0 < k ∨ s = []
      · obtain ⟨q, rfl⟩ : ∃ q', gk = q' + 1 := by
          rcases gk with _ | q
          · rcases hgo with h | rfl
            · simp at hk; omega
            · simp at hlen
          · exact ⟨q, rfl⟩
        have hk10 : k ≤ 1000000 := by
          have := Nat.pow_le_pow_right (n := 10) (by omega) (show q + 1 ≤ 5 by omega)
          omega
        have hlen5 : s.length ≤ 5 := by omega
        have hk'' : k / 10 ≤ 1000000 := by omega
        have hkm : k % 10 < 10 := Nat.mod_lt _ (by decide)
        have hstep : digs q (k / 10) (UInt8.ofNat (48 + k % 10) :: s) = digs 5 n [] := by
          rw [← HD.out, digs, if_pos hgo]
        have hkd : k / 10 < 10 ^ q := by
          rw [Nat.pow_succ] at hk
          omega
        have HS := Lib.hid hstep
        have HKD := Lib.hid hkd
        have HK := Lib.hid hk
        clear hstep hkd hk
        have ht : (k : Int).tmod 10 = ((k % 10 : Nat) : Int) := by rw [Int.tmod_eq_emod_of_nonneg (by omega)]; rfl
        have hd : (k : Int).tdiv 10 = ((k / 10 : Nat) : Int) := by rw [Int.tdiv_eq_ediv_of_nonneg (by omega)]; rfl
        generalize k % 10 = r at *
        generalize k / 10 = k' at *
        have hu : (UInt8.ofNat (48 + r)).toNat = 48 + r := by
          rw [UInt8.toNat_ofNat']
          omega
        generalize UInt8.ofNat (48 + r) = c at *
        have hconv : ∀ (W : World), (convert 37 9 (.slice (some ⟨W.heap.size, 0, none⟩) 1 1)).run Try.prog (W.alloc (.cells #[.int .u8 (48 + (r : Int))] 5)) = .ok (.string ⟨⟨[c]⟩⟩) (W.alloc (.cells #[.int .u8 (48 + (r : Int))] 5)) := by
          intro W
          refine run_convert_bytes_back (P := Try.prog) (W.alloc (.cells #[.int .u8 (48 + (r : Int))] 5)) 37 9 5 ⟨W.heap.size, 0, none⟩ 1 [c] Try.underlying37 Try.underlying5 Try.underlying9 ?_
          intro j hj
          have hj0 : j = 0 := by simpa using hj
          subst hj0
          refine (cells_new W #[.int .u8 (48 + (r : Int))] 5 _ rfl 0 (.int .u8 (48 + (r : Int))) rfl).trans ?_
          simp only [List.getElem_cons_zero]
          rw [hu]
          congr 2
        clear hu
        by_cases hpos : 0 < k
        · go_wp2
          go_roundg q
          case measure => omega
          case rel => exact ⟨k', c :: s, by rw [app1], rfl, below_alloc hb (Nat.le_refl _) _, HS.out, by simp; omega, HKD.out⟩
        · have hse : s.isEmpty = true := by
            rcases hgo with h | rfl
            · exact absurd h hpos
            · rfl
          clear hgo
          go_wp2
          go_roundg q
          case measure => omega
          case rel => exact ⟨k', c :: s, by rw [app1], rfl, below_alloc hb (Nat.le_refl _) _, HS.out, by simp; omega, HKD.out⟩
      · have hk0 : k = 0 := by omega
        subst hk0
        have hs0 : s ≠ [] := fun h => hgo (.inr h)
        have hse : s.isEmpty = false := by cases s with
          | nil => exact absurd rfl hs0
          | cons a l => rfl
        have hd := HD.out
        rw [digs_end _ _ _ hgo] at hd
        have hls : s.length ≤ 5 := by omega
        have HDD := Lib.hid hd
        have HB := Lib.hid hb
        clear hd HD hb hlen hk hs0
        go_wp2_with fail
        go_loopg [5, 7] z (fun q v5 v7 wr2 => ∃ (i : Nat) (t : List UInt8), q = z - i ∧ i ≤ z ∧ v5 = .string ⟨⟨t⟩⟩ ∧ v7 = .int .i64 i ∧ wr2 = wr ∧ zers (z - i) t = zers z s ∧ t.length = s.length + i)
        case atStart => exact ⟨0, s, rfl, Nat.zero_le _, rfl, rfl, rfl, rfl, rfl⟩
        case round =>
          obtain ⟨i, t, rfl, hiz, rfl, rfl, rfl, hzt, htl⟩ := hrel
          have HZT := Lib.hid hzt
          clear hzt
          by_cases hlt : i < z
          · go_wp2
            go_roundg (z - (i + 1))
            case measure => omega
            case rel =>
              refine ⟨i + 1, 48 :: t, rfl, hlt, congrArg Value.string (app1 48 t), by go_num, rfl, ?_, by simp; omega⟩
              rw [← HZT.out, show z - i = (z - (i + 1)) + 1 by omega, zers]
          · obtain rfl : i = z := by omega
            have htt : t = numS n i := by
              have := HZT.out
              rw [Nat.sub_self, zers, HDD.out] at this
              exact this
            have hT : (⟨#[32]⟩ : ByteArray) ++ ⟨⟨t⟩⟩ = numT n i := by rw [htt]; rfl
            have hTs : (⟨#[32]⟩ : ByteArray) ++ ⟨⟨t⟩⟩ = ⟨⟨32 :: t⟩⟩ := app1 _ _
            have hall := nums_all n i hn hz
            have hsz : ((⟨#[32]⟩ : ByteArray) ++ ⟨⟨t⟩⟩).size ≤ 100 := by
              rw [hTs]
              show (32 :: t).length ≤ 100
              simp only [List.length_cons]
              omega
            rw [← hT] at hall
            clear hT hTs htt HZT HDD
            generalize hTT : (⟨#[32]⟩ : ByteArray) ++ ⟨⟨t⟩⟩ = T at *
            have HTT := Lib.hid hTT
            have HALL := Lib.hid hall
            clear hTT hall
            go_wp2_with fail
            rw [HTT.out]
            refine (tokens_any _ _ (by omega)).mono ?_
            rintro e w3 ⟨v1, rfl, hown1, hb3⟩
            have hb03 := below_join HB.out hb3 HB.out.size
            have HB3 := Lib.hid hb03
            clear hb3 hb03
            by_cases hg : i = 0 ∧ n ≤ 99
            · obtain ⟨rfl, hn99⟩ := hg
              obtain ⟨a, b, p, e1, ka⟩ := num_good HALL.out hn99
              rw [e1] at hown1 ⊢
              obtain ⟨g1, cap1, rfl, hg1a, hg1b, hg1c, -, -, k2, -⟩ := two_row hown1
              rw [ka] at k2
              have hq : ((n : Int) == n) = true := by simp
              clear hown1 e1
              go_wp2_with fail
              refine (known2 _).mono ?_
              rintro e w5 ⟨rfl, hb5⟩
              go_wp2
              go_ret
              exact ⟨rfl, below_join HB3.out hb5 HB3.out.size⟩
            · obtain ⟨l, e1⟩ := num_bad HALL.out hg
              rw [e1] at hown1 ⊢
              clear hown1 e1
              by_cases hi0 : i = 0
              · subst hi0
                have hn99 : 99 < n := by omega
                clear hg
                go_wp2_with fail
                refine (known2 _).mono ?_
                rintro e w5 ⟨rfl, hb5⟩
                go_wp2
                go_ret
                exact ⟨rfl, below_join HB3.out hb5 HB3.out.size⟩
              · have hi1 : ((i : Int) == 0) = false := by simp; omega
                clear hg hi0
                go_wp2_with fail
                refine (known2 _).mono ?_
                rintro e w5 ⟨rfl, hb5⟩
                go_wp2
                go_ret
                exact ⟨rfl, below_join HB3.out hb5 HB3.out.size⟩
  · go_enter Try.func6, Try.ntmps6
    go_wp2
    all_goals go_ret
    all_goals exact ⟨rfl, Below.refl _ _⟩

end Go.Proofs.Ytcccnnfmhdogoaa
