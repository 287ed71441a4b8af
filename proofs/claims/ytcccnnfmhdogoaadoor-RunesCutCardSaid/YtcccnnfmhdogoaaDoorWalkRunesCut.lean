/-
  The walk of 'RunesCut': it returns true.
-/
import Derived.Test.YtcccnnfmhdogoaaDoorRefEach
import Derived.Test.YtcccnnfmhdogoaaDoorRunesK
import Derived.Test.YtcccnnfmhdogoaaDoorCutP
import Derived.Test.YtcccnnfmhdogoaaDoorWalkRunesEach
import Derived.Laws.Bits128
import Derived.Laws.Runes
namespace Go.Proofs.YtcccnnfmhdogoaaDoor
open Go Go.RowKit
set_option linter.unusedVariables false

theorem i64_and65535 (n : Int) : bits .and .i64 n 65535 = n % 65536 := by
  have h127 : (BitVec.ofInt 64 65535).toNat = 2 ^ 16 - 1 := by decide
  have key : (BitVec.ofInt 64 n &&& BitVec.ofInt 64 65535).toNat = (n % ((2 ^ 64 : Nat) : Int)).toNat % 2 ^ 16 := by
    rw [BitVec.toNat_and, BitVec.toNat_ofInt, h127, Nat.and_two_pow_sub_one_eq_mod]
  show IntKind.i64.wrap ((BitVec.ofInt 64 n &&& BitVec.ofInt 64 65535).toNat : Nat) = n % 65536
  rw [key, IntKind.wrap_i64]
  omega

theorem walk_runesCut (s : ByteArray) (cut : Int) (w : World) (hz : s.size ≤ 140737488351232) (hcut : -9223372036854775808 ≤ cut ∧ cut ≤ 9223372036854775807) (hT : Tabs w) :
    Calls Tryd.prog 4 #[.string s, .int .i64 cut] w fun e w' => e = .returned (.bool true) ∧ Below w.heap.size w w' := by
  by_cases h : 1 ≤ s.size ∧ s.size ≤ 300
  · obtain ⟨h1, h3⟩ := h
    go_enter Tryd.func4, Tryd.ntmps4
    go_wp2_with fail
    refine (refEach_any _ _ (by omega) hT).mono ?_
    rintro e w1 ⟨v1, rfl, hown1, hb1⟩
    clear hown1
    cases hbad : (each s).2 with
    | some q =>
      have hq : (0 : Int) ≤ badInt (some q) := by simp [badInt]
      go_wp2
      go_ret
      exact ⟨rfl, hb1⟩
    | none =>
      have Hb := Lib.hid hbad
      clear hbad
      have hk0 := i64_and65535 cut
      have ha0 : 0 ≤ cut % 65536 := by omega
      have ha1 : cut % 65536 < 65536 := by omega
      obtain ⟨k, hk⟩ : ∃ k : Nat, cut % 65536 % (s.size : Int) = (k : Int) := ⟨(cut % 65536 % (s.size : Int)).toNat, by
        have := Int.emod_nonneg (cut % 65536) (show (s.size : Int) ≠ 0 by omega)
        omega⟩
      have hks : k < s.size := by
        have := Int.emod_lt_of_pos (cut % 65536) (show (0 : Int) < s.size by omega)
        omega
      have hbn : badInt none < 0 := by decide
      go_wp2_with fail
      refine (each_any _ _ (by simp; omega)).mono ?_
      rintro e w2 ⟨v2, rfl, hown2, hb2⟩
      have hb := hb1.trans (hb2.mono hb1.size)
      clear hb1 hb2
      have hl3 := each_len (s.extract 0 k) (s.extract 0 k).size 0
      change (each (s.extract 0 k)).1.length ≤ (s.extract 0 k).size at hl3
      have hlz : (s.extract 0 k).size = k := by simp; omega
      have hc := each_cut (fun c => (Utf8.encode c).size) s (fun i => encode_size s i) k (by omega) s.size (s.extract 0 k).size 0 (by omega) (by omega) (by simp; omega) Hb.out
      clear Hb
      change ((each (s.extract 0 k)).2 = none ∧ endOf _ (each (s.extract 0 k)).1 0 = k) ∨ ∃ q, (each (s.extract 0 k)).2 = some q ∧ endOf _ (each (s.extract 0 k)).1 0 = q ∧ q < k at hc
      generalize (each (s.extract 0 k)).1 = l at *
      generalize (each (s.extract 0 k)).2 = odd at *
      rcases Nat.eq_zero_or_pos l.length with h0 | h0
      · obtain rfl : l = [] := List.eq_nil_of_length_eq_zero h0
        obtain ⟨A2, c2, rfl, hc2, hm2, hr2⟩ := own_shape hown2
        clear hown2 hr2 h0
        rcases hc with ⟨rfl, hE⟩ | ⟨q, rfl, hE, hq⟩
        · obtain rfl : k = 0 := hE.symm
          have hbn : badInt none = -1 := rfl
          go_wp2_with (go_at_call 10; refine (known1 _).mono ?_; rintro e w3 ⟨rfl, hb3⟩)
          go_ret
          exact ⟨rfl, hb.trans (hb3.mono hb.size)⟩
        · obtain rfl : q = 0 := hE.symm
          have hbn : badInt (some 0) = 0 := rfl
          go_wp2_with (go_at_call 10; refine (known1 _).mono ?_; rintro e w3 ⟨rfl, hb3⟩)
          go_ret
          exact ⟨rfl, hb.trans (hb3.mono hb.size)⟩
      · obtain ⟨m, hm⟩ : ∃ m, l.length = m + 1 := ⟨l.length - 1, by omega⟩
        have hat := runeCells_at l m (by omega)
        have hend := endOf_last (fun c => (Utf8.encode c).size) l 0 m hm
        rw [hm] at hown2
        have hcv : ∀ w : World, (convert 21 9 (.int .i32 ((l[m]'(by omega)).1 : Int))).run Tryd.prog w = .ok (.string (Utf8.encode ((l[m]'(by omega)).1 : Int))) w := fun w =>
          run_convert_int_string w _ _ _ _ (by rw [Tryd.underlying21]; rfl) Tryd.underlying9
        change _ = (l[m]'(by omega)).2 + (Utf8.encode ((l[m]'(by omega)).1 : Int)).size at hend
        generalize Utf8.encode ((l[m]'(by omega)).1 : Int) = eb at *
        generalize (l[m]'(by omega)).1 = c at *
        generalize (l[m]'(by omega)).2 = a at *
        rw [hend] at hc
        clear hend
        have hE : a + eb.size ≤ k := by
          rcases hc with ⟨_, h⟩ | ⟨q, _, h, hq⟩ <;> omega
        have HC := Lib.hid hc
        obtain ⟨A2, c2, rfl, hc2, hm2, hr2⟩ := own_shape hown2
        obtain ⟨g, rfl, _, hg, hcell⟩ := hr2 (by omega)
        have e1 := hcell (m * 2) (by omega)
        have e2 := hcell (m * 2 + 1) (by omega)
        rw [hat.1] at e1
        rw [hat.2] at e2
        have hl300 : m ≤ 300 := by omega
        clear hown2 hr2 hcell hat hm hc h0 hm2 hg hcut
        go_wp2_with fail
        go_quiet (fail)
        rcases HC.out with ⟨rfl, hq⟩ | ⟨q, rfl, hq, hlt⟩
        · have t1 : (badInt none == -1) = true := by decide
          have t2 : ((a : Int) + (eb.size : Int) == (k : Int)) = true := by rw [beq_iff_eq]; omega
          clear hq
          go_wp2_with (go_at_call 10; refine (known1 _).mono ?_; rintro e w3 ⟨rfl, hb3⟩)
          go_ret
          exact ⟨rfl, (bel_drewN hb _).trans (hb3.mono hb.size)⟩
        · have t1 : (badInt (some q) == -1) = false := by simp [badInt]
          have t2 : (badInt (some q) == (a : Int) + (eb.size : Int)) = true := by rw [beq_iff_eq, badInt]; omega
          have t3 : (a : Int) + (eb.size : Int) < (k : Int) := by omega
          clear hq hlt
          go_wp2_with (go_at_call 10; refine (known1 _).mono ?_; rintro e w3 ⟨rfl, hb3⟩)
          go_ret
          exact ⟨rfl, (bel_drewN hb _).trans (hb3.mono hb.size)⟩
  · by_cases h1 : s.size < 1
    · go_enter Tryd.func4, Tryd.ntmps4
      go_wp2
      go_ret
      exact ⟨rfl, Below.refl _ _⟩
    · go_enter Tryd.func4, Tryd.ntmps4
      go_wp2
      go_ret
      exact ⟨rfl, Below.refl _ _⟩

end Go.Proofs.YtcccnnfmhdogoaaDoor
