/-
  'runes.Place': a place's line and column: what it computes.
-/
import Derived.Test.YtcccnnfmhdogoaaPlaceP
import Derived.Test.YtcccnnfmhdogoaaRunesB
namespace Go.Proofs.Ytcccnnfmhdogoaa
open Go Go.RowKit
set_option linter.unusedVariables false

def PlacePost (s : ByteArray) (at' : Int) (w : World) (e : Ending) (w' : World) : Prop :=
  e = .returned (.tuple #[.int .i64 (place s at').1, .int .i64 (place s at').2]) ∧ Below w.heap.size w w'

theorem place_any (s : ByteArray) (at' : Int) (w : World) (hs : s.size ≤ 100000) :
    Calls Try.prog 11 #[.string s, .int .i64 at'] w (PlacePost s at' w) := by
  go_enter Try.func11, Try.ntmps11
  go_wp2
  go_loopw [4, 5] (fun li co wr => ∃ (p f l c : Nat), wr.heap[w.heap.size]? = some (.stringIter s p) ∧ s.size < p + f ∧ p ≤ s.size ∧ l ≤ p + 1 ∧ c ≤ p + 1 ∧ li = .int .i64 l ∧ co = .int .i64 c ∧
      placeGo s at' f p l c = place s at' ∧ Below w.heap.size w wr)
    (fun _ _ wr => s.size - wr.iterPos w.heap.size)
  case atStart =>
    exact ⟨0, s.size + 1, 1, 1, World.iter_heap w s 0, by omega, by omega, by omega, by omega, rfl, rfl, rfl, (Below.refl _ _).alloc (Nat.le_refl _) _⟩
  case round =>
    obtain ⟨p, f, l, c, hit, hf, hp, hl, hc, rfl, rfl, h1, hb⟩ := hrel
    have H1 := Lib.hid h1
    clear h1
    by_cases hlt : p < s.size
    · have hn := fun ty => Lib.run_next_any_at (P := Try.prog) _ _ s p ty hit hlt
      have hw := dec_width s p hlt
      obtain ⟨f, rfl⟩ : ∃ f', f = f' + 1 := ⟨f - 1, by omega⟩
      have hit' := Lib.hid (Lib.iterAt_heap wr _ s p (p + (Utf8.decode s p).2) hit)
      have hb' := Lib.below_iterAt hb (Nat.le_refl _) s (p + (Utf8.decode s p).2)
      by_cases ha : (p : Int) < at'
      · by_cases h10 : (Utf8.decode s p).1 = 10
        · have HO := Lib.hid h10
          have hbq : (((Utf8.decode s p).1 : Int) == 10) = true := by rw [h10]; rfl
          clear h10
          go_wp2
          go_roundw
          case rel =>
            exact ⟨_, f, l + 1, 1, hit'.out, by omega, hw.2, by omega, by omega, by go_num, rfl, by rw [← H1.out, placeGo_feed s at' f p l c ⟨hlt, ha⟩ HO.out], hb'⟩
          case measure => rw [iterPos_of hit'.out, iterPos_of hit]; omega
        · have HO := Lib.hid h10
          have hbq : (((Utf8.decode s p).1 : Int) == 10) = false := by simp; omega
          clear h10
          go_wp2
          go_roundw
          case rel =>
            exact ⟨_, f, l, c + 1, hit'.out, by omega, hw.2, by omega, by omega, rfl, by go_num, by rw [← H1.out, placeGo_step s at' f p l c ⟨hlt, ha⟩ HO.out], hb'⟩
          case measure => rw [iterPos_of hit'.out, iterPos_of hit]; omega
      · go_wp2
        go_ret2
        rw [placeGo_end s at' (f + 1) p l c (by omega)] at H1
        rw [PlacePost, ← H1.out]
        exact ⟨rfl, hb'⟩
    · have hn := fun ty => Lib.run_next_end_at (P := Try.prog) _ _ s p ty hit hlt
      go_wp2
      go_ret2
      rw [placeGo_end s at' f p l c (by omega)] at H1
      rw [PlacePost, ← H1.out]
      exact ⟨rfl, hb⟩

theorem place_at (s : ByteArray) (at' : Int) (l c : Nat) (w : World) (hs : s.size ≤ 100000) (h : place s at' = (l, c)) :
    Calls Try.prog 11 #[.string s, .int .i64 at'] w fun e w' => e = .returned (.tuple #[.int .i64 l, .int .i64 c]) ∧ Below w.heap.size w w' := by
  refine (place_any s at' w hs).mono fun e w' hp => ?_
  rw [PlacePost, h] at hp
  exact hp

end Go.Proofs.Ytcccnnfmhdogoaa
