/-
  The walk of 'LexLong': it returns true.
-/
import Derived.Laws.IdiomStrings
import Derived.Deep.OwnRows
import Derived.Test.YtcccnnfmhdogoaaLexL
namespace Go.Proofs.Ytcccnnfmhdogoaa
open Go Go.RowKit
set_option linter.unusedVariables false
attribute [local go_sem] drewN_alloc drewN_setCell

theorem app2 (t s : List UInt8) : (⟨⟨t⟩⟩ : ByteArray) ++ ⟨⟨s⟩⟩ = ⟨⟨t ++ s⟩⟩ := by
  apply ByteArray.ext
  simp [ByteArray.data_append]

theorem below_alloc {B : Nat} {a b : World} (h : Below B a b) (hB : B ≤ a.heap.size) (o : Obj) : Below B a (b.alloc o) := below_join h ((Below.refl b.heap.size b).alloc (Nat.le_refl _) o) (Nat.le_trans hB h.size)
theorem infoByte : (Try.prog.info? 5).map (fun i => (i.zero, i.size, i.bytes)) = some (some (.int .u8 0), 1, 1) := by kernel_rfl
theorem spaces_conv (W : World) (g m : Nat) (h : ∀ j, j < m → W.cell? ⟨g, j, none⟩ = some (.int .u8 32)) :
    (convert 37 9 (.slice (some ⟨g, 0, none⟩) m m)).run Try.prog W = .ok (.string (spaces m)) W := by
  have := run_convert_bytes_back (P := Try.prog) W 37 9 5 ⟨g, 0, none⟩ m (List.replicate m 32) Try.underlying37 Try.underlying5 Try.underlying9 (fun j hj => by
    rw [add_zero_off, Nat.zero_add, h j (by simpa using hj)]
    simp)
  rw [List.length_replicate] at this
  exact this

set_option maxHeartbeats 4000000 in
theorem walk_lexLong (i j : Int) (w : World) (hi : -9223372036854775808 ≤ i ∧ i ≤ 9223372036854775807) (hj : -9223372036854775808 ≤ j ∧ j ≤ 9223372036854775807) :
    Calls Try.prog 7 #[.int .i64 i, .int .i64 j] w fun e w' => e = .returned (.bool true) ∧ Below w.heap.size w w' := by
  by_cases h : (1 ≤ i ∧ i ≤ 20) ∧ (0 ≤ j ∧ j ≤ 2100)
  · obtain ⟨n, rfl⟩ : ∃ n : Nat, i = n := ⟨i.toNat, by omega⟩
    obtain ⟨m, rfl⟩ : ∃ m : Nat, j = m := ⟨j.toNat, by omega⟩
    have hn1 : 1 ≤ n := by omega
    have hn : n ≤ 20 := by omega
    have hm : m ≤ 2100 := by omega
    clear h hi hj
    go_enter Try.func7, Try.ntmps7
    go_wp2_with fail
    go_loopg [5, 6] n (fun q v5 v6 wr => ∃ (i : Nat) (t : List UInt8), q = n - i ∧ i ≤ n ∧ v5 = .string ⟨⟨t⟩⟩ ∧ v6 = .int .i64 i ∧ wr = w ∧ t = alphas i)
    case atStart => exact ⟨0, [], rfl, Nat.zero_le _, rfl, rfl, rfl, rfl⟩
    case round =>
      obtain ⟨i, t, rfl, hin, rfl, rfl, rfl, ht⟩ := hrel
      have htl : t.length = 2 * i := by rw [ht]; exact alphas_len i
      have HT := Lib.hid ht
      clear ht
      by_cases hlt : i < n
      · go_wp2
        go_roundg (n - (i + 1))
        case measure => omega
        case rel => exact ⟨i + 1, t ++ [206, 177], rfl, hlt, congrArg Value.string (app2 t [206, 177]), by go_num, rfl, by rw [HT.out]; rfl⟩
      · obtain rfl : i = n := by omega
        have hsz : (⟨⟨t⟩⟩ : ByteArray).size ≤ 100 := by
          show t.length ≤ 100
          omega
        have hall := alpha_all i hn1 hn
        rw [← HT.out] at hall
        generalize hTT : (⟨⟨t⟩⟩ : ByteArray) = T at *
        have HTT := Lib.hid hTT
        have HALL := Lib.hid hall
        clear hTT hall htl
        go_wp2_with fail
        refine (tokens_any _ _ (by omega)).mono ?_
        rintro e w3 ⟨v1, rfl, hown1, hb3⟩
        have HO := Lib.hid hown1
        have HB := Lib.hid hb3
        clear hown1 hb3
        generalize hR : tokens T = R at *
        have HR := Lib.hid hR
        clear hR
        have hmk := run_make_row' (P := Try.prog) 37 5 (.int .u8 0) 1 Try.underlying37 infoByte rfl .i64 .i64 m (by omega) (by omega)
        go_wp2_with fail
        clear hmk
        go_loopg [11] m (fun q v11 wr => ∃ (k : Nat) (cs : Array Value), q = m - k ∧ k ≤ m ∧ v11 = .int .i64 k ∧ wr.heap[w3.heap.size]? = some (.cells cs 5 (0, 0)) ∧ cs.size = m ∧ (∀ j, j < k → cs[j]? = some (.int .u8 32)) ∧
          Below w3.heap.size w3 wr)
        case atStart =>
          refine ⟨0, _, rfl, Nat.zero_le _, rfl, heap_alloc_new w3 _, ?_, by omega, (Below.refl _ _).alloc (Nat.le_refl _) _⟩
          exact size_madeCells _ _
        case round =>
          obtain ⟨k, cs, rfl, hkm, rfl, hblk, hcs, hall2, hbw⟩ := hrel
          by_cases hlt : k < m
          · have hc : wr.cell? ⟨w3.heap.size, k, none⟩ = some cs[k] := by
              rw [cell_of_row _ w3.heap.size k _ _ _ hblk]
              exact Array.getElem?_eq_getElem _
            have hf : wr.frozen? ⟨w3.heap.size, k, none⟩ = false := by simp [World.frozen?, hblk]
            have HBK := Lib.hid hblk
            have HA2 := Lib.hid hall2
            clear hblk hall2
            generalize cs[k] = c0 at *
            go_wp2
            go_roundg (m - (k + 1))
            case measure => omega
            case rel =>
              refine ⟨k + 1, _, rfl, hlt, by go_num, heap_put HBK.out k _, by simpa using hcs, fun j hj => ?_, hbw.setCell (Nat.le_refl _) _⟩
              rw [Array.getElem?_setIfInBounds]
              by_cases hjk : k = j
              · subst hjk
                simp [hcs, hlt]
              · rw [if_neg hjk]
                exact HA2.out j (by omega)
          · obtain rfl : k = m := by omega
            have hconv := spaces_conv wr w3.heap.size k (fun j hj => by rw [cell_of_row _ w3.heap.size j _ _ _ hblk]; exact hall2 j hj)
            have hsps := spaces_size k
            have hspt := spaces_tok k
            have HSP := Lib.hid hspt
            clear hspt hall2 hblk hcs
            generalize spaces k = SP at *
            go_wp2_with fail
            refine (tokens_any _ _ (by omega)).mono ?_
            rintro e w4 ⟨v2, rfl, hown2, hb4⟩
            clear hown2 hconv
            have hb04 := below_join HB.out (below_join hbw hb4 hbw.size) HB.out.size
            have HB4 := Lib.hid hb04
            have HBW := Lib.hid hbw
            have HB5 := Lib.hid hb4
            clear hb04 hbw hb4
            by_cases hn12 : i ≤ 12
            · obtain ⟨a, b, p, rfl, ta⟩ := alpha_good HALL.out hn12
              obtain ⟨g1, cap1, rfl, hg1a, hg1b, hg1c, -, k1, -, -⟩ := two_row HO.out
              rw [ta, ← HT.out, HTT.out] at k1
              have f1 := (HB5.out.cell (p := ⟨g1, 1, none⟩) (Nat.lt_of_lt_of_le hg1c HBW.out.size)).trans ((HBW.out.cell (p := ⟨g1, 1, none⟩) hg1c).trans k1)
              have hq : (T.toList == T.toList) = true := by simp
              clear k1 ta
              by_cases hk2 : k ≤ 2000
              · obtain ⟨l, e2⟩ := HSP.out.1 hk2
                rw [e2]
                clear e2
                go_wp2_with fail
                refine (known2 _).mono ?_
                rintro e w5 ⟨rfl, hb5⟩
                go_wp2
                go_ret
                exact ⟨rfl, below_join HB4.out hb5 HB4.out.size⟩
              · rw [HSP.out.2 (by omega)]
                have hk3 : decide ((k : Int) ≤ 2000) = false := decide_eq_false (by omega)
                have HK3 := Lib.hid hk3
                clear hk3
                go_wp2_with fail
                refine (known2 _).mono ?_
                rintro e w5 ⟨rfl, hb5⟩
                go_wp2
                go_ret
                exact ⟨ret_bool (by rw [HK3.out]; rfl), below_join HB4.out hb5 HB4.out.size⟩
            · obtain ⟨l, rfl⟩ := alpha_bad HALL.out hn12
              by_cases hk2 : k ≤ 2000
              · obtain ⟨l, e2⟩ := HSP.out.1 hk2
                rw [e2]
                clear e2
                go_wp2_with fail
                refine (known2 _).mono ?_
                rintro e w5 ⟨rfl, hb5⟩
                go_wp2
                go_ret
                exact ⟨rfl, below_join HB4.out hb5 HB4.out.size⟩
              · rw [HSP.out.2 (by omega)]
                have hk3 : decide ((k : Int) ≤ 2000) = false := decide_eq_false (by omega)
                have HK3 := Lib.hid hk3
                clear hk3
                go_wp2_with fail
                refine (known2 _).mono ?_
                rintro e w5 ⟨rfl, hb5⟩
                go_wp2
                go_ret
                exact ⟨ret_bool (by rw [HK3.out]; rfl), below_join HB4.out hb5 HB4.out.size⟩
  · go_enter Try.func7, Try.ntmps7
    go_wp2
    all_goals go_ret
    all_goals exact ⟨rfl, Below.refl _ _⟩

end Go.Proofs.Ytcccnnfmhdogoaa
