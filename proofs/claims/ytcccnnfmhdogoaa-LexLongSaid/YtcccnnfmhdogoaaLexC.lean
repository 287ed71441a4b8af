/-
  'lex.Words', 'lex.signs', 'slices.Contains' at strings: what they compute.
-/
import Derived.Test.YtcccnnfmhdogoaaLexB
namespace Go.Proofs.Ytcccnnfmhdogoaa
open Go Go.RowKit
set_option linter.unusedVariables false

def wordsL : List ByteArray := [⟨#[116, 114, 117, 101]⟩, ⟨#[102, 97, 108, 115, 101]⟩, ⟨#[101, 120, 48]⟩, ⟨#[101, 120, 49]⟩, ⟨#[101, 120, 50]⟩, ⟨#[97, 108, 108, 48]⟩, ⟨#[97, 108, 108, 49]⟩, ⟨#[97, 108, 108, 50]⟩, ⟨#[118, 97, 114, 48]⟩, ⟨#[118, 97, 114, 49]⟩, ⟨#[118, 97, 114, 50]⟩, ⟨#[112, 114, 101, 100]⟩, ⟨#[105, 110]⟩, ⟨#[110, 111, 116, 105, 110]⟩, ⟨#[115, 117, 98]⟩, ⟨#[117, 110, 105, 111, 110]⟩, ⟨#[105, 110, 116, 101, 114]⟩]
def signsB : List ByteArray := [⟨#[60, 61, 62]⟩, ⟨#[61, 62]⟩, ⟨#[60, 61]⟩, ⟨#[126, 61]⟩, ⟨#[61]⟩, ⟨#[126]⟩, ⟨#[60]⟩, ⟨#[38]⟩, ⟨#[124]⟩, ⟨#[40]⟩, ⟨#[41]⟩, ⟨#[123]⟩, ⟨#[125]⟩, ⟨#[44]⟩, ⟨#[59]⟩, ⟨#[58]⟩, ⟨#[43]⟩, ⟨#[92]⟩]

/-- A row of strings at the head of block h. -/
def StrsAt (w : World) (h : Nat) (l : List ByteArray) : Prop := ∀ k, k < l.length → w.cell? ⟨h, k, none⟩ = some (.string (l.getD k ByteArray.empty))
def sameStr (a b : ByteArray) : Bool := a.toList == b.toList
def hasStr (l : List ByteArray) (v : ByteArray) : Bool := l.any fun x => sameStr v x
theorem sameStr_iff (a b : ByteArray) : sameStr a b = true ↔ a = b := by
  unfold sameStr
  rw [beq_iff_eq, ByteArray.toList_eq, ByteArray.toList_eq]
  constructor
  · intro h
    cases a; cases b
    simp at h
    simp [h]
  · rintro rfl; rfl
theorem hasStr_iff (l : List ByteArray) (v : ByteArray) : hasStr l v = true ↔ v ∈ l := by
  unfold hasStr
  rw [List.any_eq_true]
  constructor
  · rintro ⟨x, hx, h⟩
    rw [(sameStr_iff v x).1 h]
    exact hx
  · intro h
    exact ⟨v, h, (sameStr_iff v v).2 rfl⟩

def StrsPost (l : List ByteArray) (w : World) (e : Ending) (w' : World) : Prop :=
  e = .returned (.slice (some ⟨w.heap.size, 0, none⟩) l.length l.length) ∧ StrsAt w' w.heap.size l ∧ Below w.heap.size w w' ∧ w.heap.size < w'.heap.size

theorem strsAt_new (w : World) (l : List ByteArray) (t : TypeId) (cs : Array Value) (h : cs.toList = l.map Value.string) : StrsAt (w.alloc (.cells cs t)) w.heap.size l := by
  intro k hk
  rw [cell_of_row (w.alloc (.cells cs t)) w.heap.size k cs t (0, 0) (heap_alloc_new w _), ← Array.getElem?_toList, h]
  simp [hk]

theorem words_any (w : World) : Calls Try.prog 13 #[] w (StrsPost wordsL w) := by
  go_enter Try.func13, Try.ntmps13
  go_wp2
  go_ret
  exact ⟨rfl, strsAt_new _ _ _ _ rfl, (Below.refl _ _).alloc (Nat.le_refl _) _, by simp⟩
theorem signs_any (w : World) : Calls Try.prog 32 #[] w (StrsPost signsB w) := by
  go_enter Try.func32, Try.ntmps32
  go_wp2
  go_ret
  exact ⟨rfl, strsAt_new _ _ _ _ rfl, (Below.refl _ _).alloc (Nat.le_refl _) _, by simp⟩

theorem index_any (w : World) (h cap : Nat) (l : List ByteArray) (v : ByteArray) (hl : StrsAt w h l) (hlen : l.length ≤ 100000) (hcap : l.length ≤ cap) :
    Calls Try.prog 34 #[.slice (some ⟨h, 0, none⟩) l.length cap, .string v] w fun e w' => (∃ i : Int, e = .returned (.int .i64 i) ∧ decide (0 ≤ i) = hasStr l v) ∧ w = w' := by
  go_enter Try.func34, Try.ntmps34
  go_wp2
  go_loop [8] (fun i => ∃ k : Nat, k ≤ l.length ∧ i = .int .i64 k ∧ ∀ j, j < k → sameStr v (l.getD j ByteArray.empty) = false) (fun i => l.length - (intOf i).toNat)
  case atStart => exact ⟨0, by omega, rfl, by omega⟩
  case round =>
    obtain ⟨k, hk, rfl, hj⟩ := hrel
    have HJ := Lib.hid hj
    have HL := Lib.hid hl
    clear hj hl
    by_cases hlt : k < l.length
    · have hc := HL.out k hlt
      cases hs : sameStr v (l.getD k ByteArray.empty) with
      | true =>
        have hs' : (v.toList == (l.getD k ByteArray.empty).toList) = true := hs
        have HS := Lib.hid hs
        clear hs
        generalize hx : l.getD k ByteArray.empty = x at *
        have HX := Lib.hid hx
        clear hx
        go_wp2
        go_ret
        refine ⟨⟨k, rfl, ?_⟩, rfl⟩
        rw [decide_eq_true (by omega)]
        symm
        rw [hasStr, List.any_eq_true]
        exact ⟨x, by rw [← HX.out]; simp [hlt], HS.out⟩
      | false =>
        have hs' : (v.toList == (l.getD k ByteArray.empty).toList) = false := hs
        have HS := Lib.hid hs
        clear hs
        generalize hx : l.getD k ByteArray.empty = x at *
        have HX := Lib.hid hx
        clear hx
        go_wp2
        go_round
        case rel =>
          refine ⟨k + 1, by omega, by go_num, fun j h => ?_⟩
          rcases Nat.lt_or_ge j k with h1 | h1
          · exact HJ.out j h1
          · obtain rfl : j = k := by omega
            rw [HX.out]; exact HS.out
        case measure => simp [intOf]; omega
    · go_wp2
      go_ret
      refine ⟨⟨-1, rfl, ?_⟩, rfl⟩
      rw [decide_eq_false (by omega)]
      symm
      rw [hasStr, List.any_eq_false]
      intro x hx
      obtain ⟨j, hj, rfl⟩ := List.getElem_of_mem hx
      have := HJ.out j (by omega)
      simp only [List.getD_eq_getElem?_getD, List.getElem?_eq_getElem hj, Option.getD_some] at this
      rw [this]; decide

theorem contains_any (w : World) (h cap : Nat) (l : List ByteArray) (v : ByteArray) (hl : StrsAt w h l) (hlen : l.length ≤ 100000) (hcap : l.length ≤ cap) :
    Calls Try.prog 30 #[.slice (some ⟨h, 0, none⟩) l.length cap, .string v] w fun e w' => e = .returned (.bool (hasStr l v)) ∧ w = w' := by
  go_enter Try.func30, Try.ntmps30
  go_wp2_with fail
  refine (index_any w h cap l v hl hlen hcap).mono ?_
  rintro e w' ⟨⟨i, rfl, hi⟩, rfl⟩
  have HI := Lib.hid hi
  clear hi hl
  go_wp2
  go_ret
  exact ⟨ret_bool HI.out, rfl⟩

end Go.Proofs.Ytcccnnfmhdogoaa
