/-
  The classes of runes: what 'runes.isLetter', 'runes.Class' and the reference's 'Class' compute.
-/
import Derived.Test.YtcccnnfmhdogoaaProg
import Derived.Test.YtcccnnfmhdogoaaRunesC
import Derived.Test.YtcccnnfmhdogoaaKit
namespace Go.Proofs.Ytcccnnfmhdogoaa
open Go Go.RowKit

theorem isLetter_any (r : Int) (w : World) :
    Calls Try.prog 16 #[.int .i32 r] w fun e w' => e = .returned (.bool (letterB r)) ∧ w = w' := by
  go_enter Try.func16, Try.ntmps16
  go_wp2
  all_goals
    go_ret
    refine ⟨ret_bool ?_, rfl⟩
    rw [Bool.eq_iff_iff]
    simp [letterB]
    try omega

theorem class_letter (r : Int) (w : World) (h : letterB r = true) :
    Calls Try.prog 8 #[.int .i32 r] w fun e w' => e = .returned (.int .i64 (classOf r)) ∧ w = w' := by
  have hc : classOf r = 1 := by simp [classOf, h]
  rw [hc]
  clear hc
  go_enter Try.func8, Try.ntmps8
  go_wp2_with (go_at_call 16; refine (isLetter_any _ _).mono ?_; rintro e w' ⟨rfl, rfl⟩)
  go_ret
  exact ⟨rfl, rfl⟩
theorem class_other (r : Int) (w : World) (h : letterB r = false) :
    Calls Try.prog 8 #[.int .i32 r] w fun e w' => e = .returned (.int .i64 (classOf r)) ∧ w = w' := by
  go_enter Try.func8, Try.ntmps8
  go_wp2_with (go_at_call 16; refine (isLetter_any _ _).mono ?_; rintro e w' ⟨rfl, rfl⟩)
  all_goals
    go_ret
    refine ⟨ret_int ?_, rfl⟩
    unfold classOf
    rw [if_neg (by rw [h]; decide)]
    try simp only [beq_iff_eq, beq_eq_false_iff_ne, ne_eq] at *
    simp only [digitB, spaceB, signB, decide_eq_true_eq]
    repeat' split
    all_goals omega
theorem class_any (r : Int) (w : World) :
    Calls Try.prog 8 #[.int .i32 r] w fun e w' => e = .returned (.int .i64 (classOf r)) ∧ w = w' := by
  cases h : letterB r
  · exact class_other r w h
  · exact class_letter r w h



def signsL : List UInt8 := [61, 126, 60, 62, 38, 124, 40, 41, 123, 125, 44, 59, 58, 43, 92, 35, 39]

theorem signs_mem (r : Int) : signB r = true ↔ ∃ k, k < 17 ∧ r = ((signsL.getD k 0).toNat : Int) := by
  constructor
  · intro h
    simp only [signB, decide_eq_true_eq] at h
    rcases h with rfl | rfl | rfl | rfl | rfl | rfl | rfl | rfl | rfl | rfl | rfl | rfl | rfl | rfl | rfl | rfl | rfl
    · exact ⟨0, by decide, by decide⟩
    · exact ⟨1, by decide, by decide⟩
    · exact ⟨2, by decide, by decide⟩
    · exact ⟨3, by decide, by decide⟩
    · exact ⟨4, by decide, by decide⟩
    · exact ⟨5, by decide, by decide⟩
    · exact ⟨6, by decide, by decide⟩
    · exact ⟨7, by decide, by decide⟩
    · exact ⟨8, by decide, by decide⟩
    · exact ⟨9, by decide, by decide⟩
    · exact ⟨10, by decide, by decide⟩
    · exact ⟨11, by decide, by decide⟩
    · exact ⟨12, by decide, by decide⟩
    · exact ⟨13, by decide, by decide⟩
    · exact ⟨14, by decide, by decide⟩
    · exact ⟨15, by decide, by decide⟩
    · exact ⟨16, by decide, by decide⟩
  · rintro ⟨k, hk, rfl⟩
    revert k
    decide

theorem sign_at (k : Nat) (h' : k < (ByteArray.mk #[61, 126, 60, 62, 38, 124, 40, 41, 123, 125, 44, 59, 58, 43, 92, 35, 39]).size) : wrap32 ↑(ByteArray.mk #[61, 126, 60, 62, 38, 124, 40, 41, 123, 125, 44, 59, 58, 43, 92, 35, 39])[k].toNat = ((signsL.getD k 0).toNat : Int) := by
  have h : k < 17 := h'
  revert k
  decide +kernel
theorem sign_yes {r : Int} {k : Nat} {h2 : k < (ByteArray.mk #[61, 126, 60, 62, 38, 124, 40, 41, 123, 125, 44, 59, 58, 43, 92, 35, 39]).size} (ht : (r == wrap32 ↑((ByteArray.mk #[61, 126, 60, 62, 38, 124, 40, 41, 123, 125, 44, 59, 58, 43, 92, 35, 39])[k]'h2).toNat) = true) : r = ((signsL.getD k 0).toNat : Int) := by
  rw [beq_iff_eq] at ht
  exact ht.trans (sign_at k h2)
theorem sign_no {r : Int} {k : Nat} {h2 : k < (ByteArray.mk #[61, 126, 60, 62, 38, 124, 40, 41, 123, 125, 44, 59, 58, 43, 92, 35, 39]).size} (ht : (r == wrap32 ↑((ByteArray.mk #[61, 126, 60, 62, 38, 124, 40, 41, 123, 125, 44, 59, 58, 43, 92, 35, 39])[k]'h2).toNat) = false) : r ≠ ((signsL.getD k 0).toNat : Int) := by
  rw [beq_eq_false_iff_ne] at ht
  exact fun e => ht (e.trans (sign_at k h2).symm)

theorem ref_class (r : Int) (w : World) :
    Calls Try.prog 9 #[.int .i32 r] w fun e w' => e = .returned (.int .i64 (classOf r)) ∧ w = w' := by
  go_enter Try.func9, Try.ntmps9
  go_upto_region 1 with fail
  go_cut [0, 5] (fun r0 c wx => r0 = .int .i32 r ∧ c = .bool (letterB r) ∧ w = wx)
  case first =>
    go_wp2
    all_goals
      go_meet
      refine ⟨by simp [*], ?_, rfl⟩
      refine congrArg Value.bool ?_
      rw [Bool.eq_iff_iff]
      simp [letterB]
      try omega
  case rest =>
    obtain ⟨rfl, rfl, rfl⟩ := hcut
    cases hl : letterB r
    case true =>
      go_wp2
      go_ret
      exact ⟨ret_int (by simp [classOf, hl]), rfl⟩
    case false =>
      go_upto_region 3 with fail
      go_cut [32] (fun c wx => c = .bool (digitB r) ∧ w = wx)
      case first =>
        go_wp2
        all_goals
          go_meet
          refine ⟨?_, rfl⟩
          refine congrArg Value.bool ?_
          rw [Bool.eq_iff_iff]
          simp [digitB]
          try omega
      case rest =>
        obtain ⟨rfl, rfl⟩ := hcut
        cases hd : digitB r
        case true =>
          go_wp2
          go_ret
          exact ⟨ret_int (by simp [classOf, hl, hd]), rfl⟩
        case false =>
          go_upto_region 5 with fail
          go_cut [0, 39] (fun r0 c wx => r0 = .int .i32 r ∧ c = .bool (spaceB r) ∧ w = wx)
          case first =>
            go_wp2
            all_goals
              go_meet
              refine ⟨by simp [*], ?_, rfl⟩
              refine congrArg Value.bool ?_
              rw [Bool.eq_iff_iff]
              simp_all [spaceB]
          case rest =>
            obtain ⟨rfl, rfl, rfl⟩ := hcut
            cases hs : spaceB r
            case true =>
              go_wp2
              go_ret
              exact ⟨ret_int (by simp [classOf, hl, hd, hs]), rfl⟩
            case false =>
              go_wp2
              go_loop [4] (fun i => ∃ k : Nat, k ≤ 17 ∧ i = .int .i64 k ∧ ∀ j, j < k → r ≠ ((signsL.getD j 0).toNat : Int)) (fun i => 17 - (intOf i).toNat)
              case atStart => exact ⟨0, by omega, rfl, by omega⟩
              case round =>
                obtain ⟨k, hk, rfl, hj⟩ := hrel
                have H := Lib.hid hj
                clear hj
                go_wp2
                · have ht := sign_yes (r := r) (k := k) (by assumption)
                  have hlt : (k : Int) < 17 := by assumption
                  go_ret
                  exact ⟨ret_int (by rw [classOf, hl, hd, hs, if_neg (by decide), if_neg (by decide), if_neg (by decide), if_pos ((signs_mem r).2 ⟨k, by omega, ht⟩)]), rfl⟩
                · have ht := sign_no (r := r) (k := k) (by assumption)
                  have hlt : (k : Int) < 17 := by assumption
                  go_round
                  case rel =>
                    refine ⟨k + 1, by omega, by go_num, fun j hj => ?_⟩
                    rcases Nat.lt_or_ge j k with h1 | h1
                    · exact H.out j h1
                    · obtain rfl : j = k := by omega
                      exact ht
                  case measure => simp [intOf]; omega
                · have hge : 17 ≤ (k : Int) := by assumption
                  go_ret
                  refine ⟨ret_int ?_, rfl⟩
                  rw [classOf, hl, hd, hs, if_neg (by decide), if_neg (by decide), if_neg (by decide), if_neg]
                  intro h
                  obtain ⟨j, hj, h⟩ := (signs_mem r).1 h
                  exact H.out j (by omega) h

end Go.Proofs.Ytcccnnfmhdogoaa
