/-
  The lexer of 'lex': its state in memory; 'class' and 'at'.
-/
import Derived.Test.YtcccnnfmhdogoaaRunesB
import Derived.Test.YtcccnnfmhdogoaaLexP
namespace Go.Proofs.Ytcccnnfmhdogoaa
open Go Go.RowKit
set_option linter.unusedVariables false

/-- The lexer lies in block g: its text, its runes, the bad byte, how many runes were read. -/
structure LexAt (w : World) (g : Nat) (s : ByteArray) (A : Option Addr) (cap : Nat) (L : List (Nat × Nat)) (bad : Option Nat) (n : Nat) : Prop where
  blk : w.heap[g]? = some (.cells #[.string s, .slice A L.length cap, .int .i64 (badInt bad), .int .i64 n] 46 (0, 0))
  cap_le : L.length ≤ cap
  cap_max : cap ≤ maxLen
  few : L.length ≤ 100000
  le : n ≤ L.length
  size : s.size ≤ 100000
  run : L = (each s).1 ∧ bad = (each s).2
  row : 0 < L.length → ∃ h, A = some ⟨h, 0, none⟩ ∧ h ≠ g ∧ h < w.heap.size ∧ ∀ j, j < L.length * 2 → w.cell? ⟨h, j, none⟩ = (runeCells L)[j]?

section
variable {w w' : World} {g : Nat} {s : ByteArray} {A : Option Addr} {cap : Nat} {L : List (Nat × Nat)} {bad : Option Nat} {n : Nat}
theorem LexAt.lt (h : LexAt w g s A cap L bad n) : g < w.heap.size := (Array.getElem?_eq_some_iff.1 h.blk).1
theorem LexAt.c0 (h : LexAt w g s A cap L bad n) : w.cell? ⟨g, 0, none⟩ = some (.string s) := cell_of_row w g 0 _ _ _ h.blk
theorem LexAt.c1 (h : LexAt w g s A cap L bad n) : w.cell? ⟨g, 1, none⟩ = some (.slice A L.length cap) := cell_of_row w g 1 _ _ _ h.blk
theorem LexAt.c2 (h : LexAt w g s A cap L bad n) : w.cell? ⟨g, 2, none⟩ = some (.int .i64 (badInt bad)) := cell_of_row w g 2 _ _ _ h.blk
theorem LexAt.c3 (h : LexAt w g s A cap L bad n) : w.cell? ⟨g, 3, none⟩ = some (.int .i64 n) := cell_of_row w g 3 _ _ _ h.blk
theorem LexAt.fz (h : LexAt w g s A cap L bad n) (o : Nat) : w.frozen? ⟨g, o, none⟩ = false := by simp [World.frozen?, h.blk]
theorem LexAt.drewN (h : LexAt w g s A cap L bad n) (q : Nat) : LexAt (w.drewN q) g s A cap L bad n := ⟨h.blk, h.cap_le, h.cap_max, h.few, h.le, h.size, h.run, h.row⟩
theorem LexAt.drew (h : LexAt w g s A cap L bad n) : LexAt w.drew g s A cap L bad n := h.drewN 1
/-- The lexer, where more may lie and its block holds another count. -/
theorem LexAt.next (h : LexAt w g s A cap L bad n) (hg : w.grownBy w' (some g)) {n' : Nat} (hn : n' ≤ L.length)
    (hb : w'.heap[g]? = some (.cells #[.string s, .slice A L.length cap, .int .i64 (badInt bad), .int .i64 n'] 46 (0, 0))) : LexAt w' g s A cap L bad n' :=
  ⟨hb, h.cap_le, h.cap_max, h.few, hn, h.size, h.run, fun hl => by
    obtain ⟨k, e, hk, hlt, hc⟩ := h.row hl
    exact ⟨k, e, hk, Nat.lt_of_lt_of_le hlt hg.size, fun j hj => (World.cell?_of_block (a := ⟨k, j, none⟩) (hg.block k hlt (by simpa using hk))).trans (hc j hj)⟩⟩
theorem LexAt.kept (h : LexAt w g s A cap L bad n) (hb : Below w.heap.size w w') : LexAt w' g s A cap L bad n :=
  ⟨(hb.block g h.lt).trans h.blk, h.cap_le, h.cap_max, h.few, h.le, h.size, h.run, fun hl => by
    obtain ⟨k, e, hk, hlt, hc⟩ := h.row hl
    exact ⟨k, e, hk, Nat.lt_of_lt_of_le hlt hb.size, fun j hj => (hb.cell (p := ⟨k, j, none⟩) hlt).trans (hc j hj)⟩⟩
theorem LexAt.alloc (h : LexAt w g s A cap L bad n) (o : Obj) : LexAt (w.alloc o) g s A cap L bad n := h.kept ((Below.refl _ _).alloc (Nat.le_refl _) _)
theorem LexAt.setNew (h : LexAt w g s A cap L bad n) {W : World} (hW : LexAt W g s A cap L bad n) {p : Addr} (hp : w.heap.size ≤ p.block) (hb : Below w.heap.size w W) (u : Value) : LexAt (W.setCell p u) g s A cap L bad n :=
  h.kept (hb.setCell hp u)
theorem LexAt.put (h : LexAt w g s A cap L bad n) {n' : Nat} (hn : n' ≤ L.length) : LexAt (w.setCell ⟨g, 3, none⟩ (.int .i64 n')) g s A cap L bad n' :=
  h.next (gb_setCell (World.grownBy.refl _ _) _ _) hn (heap_put h.blk 3 _)
theorem LexAt.adv (h : LexAt w g s A cap L bad n) (hgb : w.grownBy w' (some g)) {k : Nat} (hk : k + 1 ≤ L.length)
    (hb : w'.heap[g]? = some (.cells #[.string s, .slice A L.length cap, .int .i64 (badInt bad), .int .i64 k] 46 (0, 0))) :
    LexAt (w'.setCell ⟨g, 3, none⟩ (.int .i64 ((k : Int) + 1))) g s A cap L bad (k + 1) := by
  have h1 : LexAt w' g s A cap L bad k := h.next hgb (by omega) hb
  have := h1.put hk
  simpa using this
/-- The rune that is next, in memory. -/
theorem LexAt.rune (h : LexAt w g s A cap L bad n) (hn : n < L.length) :
    ∃ k, A = some ⟨k, 0, none⟩ ∧ k < w.heap.size ∧ w.cell? ⟨k, n * 2, none⟩ = some (.int .i32 (L[n]).1) ∧ w.cell? ⟨k, n * 2 + 1, none⟩ = some (.int .i64 (L[n]).2) := by
  obtain ⟨k, e, hk, hlt, hc⟩ := h.row (by omega)
  exact ⟨k, e, hlt, (hc _ (by omega)).trans (runeCells_at L n hn).1, (hc _ (by omega)).trans (runeCells_at L n hn).2⟩
end

def Quiet (v : Value) (w : World) (e : Ending) (w' : World) : Prop := e = .returned v ∧ ∃ m, w' = w.drewN m

theorem class_at (w : World) (g : Nat) (s : ByteArray) (A : Option Addr) (cap : Nat) (L : List (Nat × Nat)) (bad : Option Nat) (n : Nat) (h : LexAt w g s A cap L bad n) :
    Calls Try.prog 23 #[.pointer (some ⟨g, 0, none⟩)] w (Quiet (.int .i64 (classAt L n)) w) := by
  have c1 := h.c1
  have c3 := h.c3
  have hcl := h.cap_le
  have hfew := h.few
  have hle := h.le
  by_cases hn : n < L.length
  · obtain ⟨k, rfl, hk, e1, e2⟩ := h.rune hn
    have hcls : classAt L n = classOf (L[n]).1 := by simp [classAt, hn]
    rw [hcls]
    clear hcls e2 hle
    generalize ((L[n]'hn).1 : Int) = r at *
    generalize L.length = N at *
    go_enter Try.func23, Try.ntmps23
    go_wp2_with fail
    go_quiet (fail)
    go_wp2_with fail
    go_quiet ((go_at_call 8; first | exact quiet_add (quiet_same (class_any _ _)) | exact quiet_add2 (quiet_same (class_any _ _))))
    go_wp2
    go_ret
    exact ⟨rfl, _, by first | rfl | exact World.drewN_drewN _ _ _⟩
  · have hcls : classAt L n = -1 := by simp [classAt, hn]
    rw [hcls]
    have hnn : L.length ≤ n := by omega
    clear hcls hle
    generalize L.length = N at *
    go_enter Try.func23, Try.ntmps23
    go_wp2_with fail
    go_quiet (fail)
    go_wp2
    go_ret
    exact ⟨rfl, _, by first | rfl | exact World.drewN_drewN _ _ _⟩

theorem at_at (w : World) (g : Nat) (s : ByteArray) (A : Option Addr) (cap : Nat) (L : List (Nat × Nat)) (bad : Option Nat) (n : Nat) (h : LexAt w g s A cap L bad n) :
    Calls Try.prog 19 #[.pointer (some ⟨g, 0, none⟩)] w (Quiet (.int .i64 (placeAt s bad L n)) w) := by
  have c0 := h.c0
  have c1 := h.c1
  have c2 := h.c2
  have c3 := h.c3
  have hcl := h.cap_le
  have hfew := h.few
  have hle := h.le
  have hss := h.size
  by_cases hn : n < L.length
  · obtain ⟨k, rfl, hk, e1, e2⟩ := h.rune hn
    have hcls : placeAt s bad L n = (L[n]).2 := by simp [placeAt, placeIn, hn]
    rw [hcls]
    clear hcls e1 hle
    generalize ((L[n]'hn).2 : Int) = r at *
    generalize L.length = N at *
    go_enter Try.func19, Try.ntmps19
    go_wp2_with fail
    go_quiet (fail)
    go_wp2_with fail
    go_quiet (fail)
    go_wp2
    go_ret
    exact ⟨rfl, _, by first | rfl | exact World.drewN_drewN _ _ _⟩
  · have hcls : placeAt s bad L n = finOf s bad := by simp [placeAt, placeIn, hn]
    rw [hcls]
    have hnn : L.length ≤ n := by omega
    clear hcls hle
    generalize L.length = N at *
    cases bad with
    | none =>
      have hb : badInt none < 0 := by decide
      go_enter Try.func19, Try.ntmps19
      go_wp2_with fail
      go_quiet (fail)
      go_wp2
      go_ret
      exact ⟨rfl, _, by first | rfl | exact World.drewN_drewN _ _ _⟩
    | some q =>
      have hb : 0 ≤ badInt (some q) := by simp [badInt]
      go_enter Try.func19, Try.ntmps19
      go_wp2_with fail
      go_quiet (fail)
      go_wp2
      go_ret
      exact ⟨rfl, _, by first | rfl | exact World.drewN_drewN _ _ _⟩

end Go.Proofs.Ytcccnnfmhdogoaa
