/-
  The reference's 'Each': it computes what 'runes.Each' does.
-/
import Derived.Test.YtmjnbdkjekdkgaaDoorFbLx1
import Derived.Test.YtmjnbdkjekdkgaaDoorFbUtf8
namespace Go.Proofs.YtmjnbdkjekdkgaaDoor
open Go Go.RowKit
set_option linter.unusedVariables false
set_option maxRecDepth 10000

theorem get_extract (s : ByteArray) (i k : Nat) (h : i ≤ s.size) : (s.extract i s.size).get! k = s.get! (i + k) := by
 have hz : (s.extract i s.size).size = s.size - i := by simp
 rcases Nat.lt_or_ge (i + k) s.size with hk | hk
 ·rw [get_eq _ _ (by omega), get_eq _ _ hk]
  simp [ByteArray.data_extract]
 ·have e1 : (s.extract i s.size).get! k = default := by
   simp only [ByteArray.get!]
   rw [getElem!_neg]
   exact (by rw [← ByteArray.size_data] at hz; omega : ¬ k < (s.extract i s.size).data.size)
  have e2 : s.get! (i + k) = default := by
   simp only [ByteArray.get!]
   rw [getElem!_neg]
   exact (by rw [← ByteArray.size_data] at hk; omega : ¬ i + k < s.data.size)
  rw [e1, e2]

theorem decodeGo_cut (s : ByteArray) (i : Nat) (h : i < s.size) : Lib.decodeGo (s.extract i s.size) = Utf8.decode s i := by
 have hz : (s.extract i s.size).size = s.size - i := by simp
 unfold Lib.decodeGo
 rw [if_neg (by omega), Lib.decode_at, Lib.decode_at, hz]
 simp only [get_extract s i _ (Nat.le_of_lt h), Nat.add_zero, Nat.zero_add, Nat.sub_zero]

theorem decode_cut (s : ByteArray) (i : Nat) (w : World) (hT : Tabs w) (h : i < s.size) :
  Calls Tryd.prog 111 #[.string (s.extract i s.size)] w fun e w' => e = .returned (.tuple #[.int .i32 (Utf8.decode s i).1, .int .i64 (Utf8.decode s i).2]) ∧ Below w.heap.size w w' := by
 refine (decode_any _ w hT).mono fun e w' hp => ?_
 rw [decodeGo_cut s i h] at hp
 exact hp

theorem dec_width_le (s : ByteArray) (pos : Nat) (h : pos < s.size) : (Utf8.decode s pos).2 ≤ 4 := by
 simp only [Utf8.decode]
 repeat' split
 all_goals simp_all

/-- Where there are no runes there is no row. -/
def EachPostN (s : ByteArray) (w : World) (e : Ending) (w' : World) : Prop :=
  ∃ v : Value, e = .returned (.tuple #[v, .int .i64 (badInt (each s).2)]) ∧ w'.ownsRow w.heap.size 127 2 v (each s).1.length (runeCells (each s).1) ∧ Below w.heap.size w w' ∧ ((each s).1 = [] → v = .slice none 0 0)
theorem refEach_nil (s : ByteArray) (w : World) (hs : s.size ≤ 100000) (hT : Tabs w) :
  Calls Tryd.prog 80 #[.string s] w (EachPostN s w) := by
 obtain ⟨i0, hi, hz0, hz1, hz2⟩ := info_parts infoRune
 go_enter Tryd.func80, Tryd.ntmps80
 go_wp2
 go_loopw [4, 5] (fun v iv wr => ∃ (p f : Nat) (acc : List (Nat × Nat)), iv = .int .i64 p ∧ s.size ≤ p + f ∧ acc.length ≤ p ∧ p ≤ s.size ∧
   acc ++ (eachGo s f p).1 = (each s).1 ∧ (eachGo s f p).2 = (each s).2 ∧
   wr.ownsRow w.heap.size 127 2 v acc.length (runeCells acc) ∧ Below w.heap.size w wr ∧ (acc = [] → v = .slice none 0 0))
  (fun _ iv _ => s.size - (intOf iv).toNat)
 case atStart =>
  exact ⟨0, s.size, [], rfl, by omega, by simp, by omega, rfl, rfl, World.ownsRow_nil _ _ _ _, Below.refl _ _, fun _ => rfl⟩
 case round =>
  obtain ⟨p, f, acc, rfl, hf, hacc, hp, h1, h2, hown, hb, hnil⟩ := hrel
  have HN := Lib.hid hnil
  clear hnil
  have H1 := Lib.hid h1
  have H2 := Lib.hid h2
  clear h1 h2
  by_cases hlt : p < s.size
  ·obtain ⟨f, rfl⟩ : ∃ f', f = f' + 1 := ⟨f - 1, by omega⟩
   have hw := dec_width s p hlt
   have hw4 := dec_width_le s p hlt
   have hsz := hb.size
   by_cases ho : (Utf8.decode s p).1 = 65533 ∧ (Utf8.decode s p).2 = 1
   ·have HO := Lib.hid ho
    have hb1 : (((Utf8.decode s p).1 : Int) == 65533) = true := by rw [ho.1]; rfl
    have hb2 : ((Utf8.decode s p).2 : Int) < 2 := by omega
    clear ho
    go_wp2_with (go_at_call 111; refine (decode_cut s p _ (hT.below hb) hlt).mono ?_; rintro e w1 ⟨rfl, hb1⟩)
    go_ret2
    rw [eachGo_odd s f p hlt HO.out] at H1 H2
    exact ⟨_, by rw [← H2.out]; rfl, by rw [← H1.out]; simpa using own_below_size hown (by assumption), hb.trans ((by assumption : Below wr.heap.size wr _).mono hsz), fun e => HN.out (by have := H1.out; rw [List.append_nil] at this; rw [this]; exact e)⟩
   ·have HO := Lib.hid ho
    clear ho
    go_wp2_with fail
    refine (decode_cut s p _ (hT.below hb) hlt).mono ?_
    rintro e w1 ⟨rfl, hb1⟩
    have hown1 := own_below_size hown hb1
    have hbw := hb.trans (hb1.mono hsz)
    have hszw := hbw.size
    clear hown
    have hr := HO.out
    have hq : (((Utf8.decode s p).1 : Int) == 65533) = false ∨ ((((Utf8.decode s p).1 : Int) == 65533) = true ∧ ¬ ((Utf8.decode s p).2 : Int) < 2) := by
     by_cases e : (Utf8.decode s p).1 = 65533
     ·right; exact ⟨by simp; omega, by omega⟩
     ·left; simp; omega
    clear hr
    rcases hq with hq | ⟨hq, hq2⟩
    all_goals
     go_wp2_with (at_builtin; go_must (refine wpList_append_own _ rfl _ _ 85 rfl w.heap.size 127 i0 _ 2 16 Tryd.underlying85 hi hz0 hz1 hz2 rfl (by decide) _ _ _ rfl (hown1.alloc _) ⟨w1.heap.size, 0, none⟩ 1 1 [.int .i32 (Utf8.decode s p).1, .int .i64 p] rfl rfl (cells_new _ _ _ _ rfl) (by intro u hu; simp at hu; rcases hu with rfl | rfl <;> rfl) (by unfold maxLen; omega) (by omega) (by simp; omega) ?_); intro v' w2 hown2 hgrow2 _)
     have hbA := below_own ((hbw.alloc (by omega) _)) (hown1.alloc _) hgrow2 (Nat.le_refl _) (by simp; omega)
     clear hgrow2 hown1
     go_wp2
     go_roundw
     case rel =>
      refine ⟨p + (Utf8.decode s p).2, f, acc ++ [((Utf8.decode s p).1, p)], by go_num, by omega, by simp; omega, by omega, ?_, ?_, ?_, hbA, fun e => absurd e (by simp)⟩
      ·rw [← H1.out, eachGo_step s f p hlt HO.out]; simp
      ·rw [← H2.out, eachGo_step s f p hlt HO.out]
      ·rw [← runeCells_snoc]; simpa using hown2
     case measure => simp [intOf]; omega
  ·go_wp2
   go_ret2
   rw [eachGo_end s f p hlt] at H1 H2
   exact ⟨_, by rw [← H2.out]; rfl, by rw [← H1.out]; simpa using hown, hb, fun e => HN.out (by have := H1.out; rw [List.append_nil] at this; rw [this]; exact e)⟩
end Go.Proofs.YtmjnbdkjekdkgaaDoor
