/-
  Formulas and terms that a call is handed.
-/
import Derived.Test.YtmjnbdkjekdkgaaDoorFbNode
namespace Go.Proofs.YtmjnbdkjekdkgaaDoor
open Go Go.RowKit
set_option linter.unusedVariables false
set_option maxRecDepth 100000

theorem uStr : Tryd.prog.underlying 9 = some .string := by kernel_rfl
theorem uInt : Tryd.prog.underlying 3 = some (.int .i64) := by kernel_rfl
theorem cNode : Tryd.prog.cellsOf 24 = 5 := by kernel_rfl
theorem rd_str {H : Type} {h : Hp} {xs : List AV} {d : DataW H} (r : Rd Tryd.prog h 9 xs d) : ∃ s, xs = [.str s] ∧ Bytes s := by
 have u := uStr
 cases r with
 | bool ht => rw [u] at ht; cases ht
 | int ht hw => rw [u] at ht; cases ht
 | str ht hs => exact ⟨_, rfl, bytes_textOf _⟩
 | nil ht => rw [u] at ht; cases ht
 | none ht => rw [u] at ht; cases ht
 | row ht hz hr hl' he hm hd => rw [u] at ht; cases ht
 | agg ht hl' hp hd => rw [u] at ht; cases ht
theorem rd_int {H : Type} {h : Hp} {xs : List AV} {d : DataW H} (r : Rd Tryd.prog h 3 xs d) : ∃ s, xs = [.int .i64 s] := by
 have u := uInt
 cases r with
 | bool ht => rw [u] at ht; cases ht
 | int ht hw => rw [u] at ht; injection ht with ht; injection ht with ht; subst ht; exact ⟨_, rfl⟩
 | str ht hs => rw [u] at ht; cases ht
 | nil ht => rw [u] at ht; cases ht
 | none ht => rw [u] at ht; cases ht
 | row ht hz hr hl' he hm hd => rw [u] at ht; cases ht
 | agg ht hl' hp hd => rw [u] at ht; cases ht
theorem uNode : ∃ f0 f1 f2 f3 f4 : Field, Tryd.prog.underlying 24 = some (.struct #[f0, f1, f2, f3, f4]) ∧ (f0.type = 9 ∧ f0.offset = 0) ∧ (f1.type = 9 ∧ f1.offset = 1) ∧ (f2.type = 3 ∧ f2.offset = 2) ∧ (f3.type = 3 ∧ f3.offset = 3) ∧ (f4.type = 22 ∧ f4.offset = 4) :=
 ⟨_, _, _, _, _, Tryd.underlying24, ⟨rfl, rfl⟩, ⟨rfl, rfl⟩, ⟨rfl, rfl⟩, ⟨rfl, rfl⟩, ⟨rfl, rfl⟩⟩
theorem c1 : Tryd.prog.cellsOf 9 = 1 ∧ Tryd.prog.cellsOf 3 = 1 ∧ Tryd.prog.cellsOf 22 = 1 := ⟨by kernel_rfl, by kernel_rfl, by kernel_rfl⟩
theorem rd_both {H : Type} {h : Hp} {t : TypeId} {xs : List AV} {d : DataW H} (r : Rd Tryd.prog h t xs d) :
  (t = 24 → ∃ k, RdN h k xs) ∧ (t = 22 → ∃ ks, xs = [ks] ∧ ∀ op name n a, Bytes op → Bytes name → ∃ kids, RdN h (.mk op name n a kids) [.str op, .str name, .int .i64 n, .int .i64 a, ks]) := by
 obtain ⟨f0, f1, f2, f3, f4, uN, ⟨t0, o0⟩, ⟨t1, o1⟩, ⟨t2, o2⟩, ⟨t3, o3⟩, ⟨t4, o4⟩⟩ := uNode
 have uK := uKids
 induction r with
 | bool ht => exact ⟨fun e => (by subst e; rw [uN] at ht; cases ht), fun e => (by subst e; rw [uK] at ht; cases ht)⟩
 | int ht hw => exact ⟨fun e => (by subst e; rw [uN] at ht; cases ht), fun e => (by subst e; rw [uK] at ht; cases ht)⟩
 | str ht hs => exact ⟨fun e => (by subst e; rw [uN] at ht; cases ht), fun e => (by subst e; rw [uK] at ht; cases ht)⟩
 | nil ht => exact ⟨fun e => (by subst e; rw [uN] at ht; cases ht), fun _ => ⟨_, rfl, fun op name n a h1 h2 => ⟨[], .leaf rfl rfl ⟨h1, h2⟩⟩⟩⟩
 | none ht => exact ⟨fun e => (by subst e; rw [uN] at ht; cases ht), fun _ => ⟨_, rfl, fun op name n a h1 h2 => ⟨[], .leaf rfl rfl ⟨h1, h2⟩⟩⟩⟩
 | row ht hz hr hl he hm hd ih =>
  rename_i t e c m len cells elems rest
  refine ⟨fun e => (by subst e; rw [uN] at ht; cases ht), fun e2 => ⟨_, rfl, fun op name n a h1 h2 => ?_⟩⟩
  subst e2
  rw [uK] at ht
  injection ht with ht
  injection ht with ht
  subst ht
  rw [cNode] at hl ih ⊢
  have hk : ∀ i, ∃ k, i < len → RdN h k ((cells.drop (i * 5)).take 5) := fun i => by
   by_cases hi : i < len
   ·obtain ⟨k, hk⟩ := (ih i elems[i] (List.getElem?_eq_getElem (he ▸ hi))).1 rfl
    exact ⟨k, fun _ => hk⟩
   ·exact ⟨.mk [] [] 0 0 [], fun h => absurd h hi⟩
  obtain ⟨f, hf⟩ := Classical.axiomOfChoice hk
  have hlen : ((List.range len).map f).length = len := by simp
  have hmx : (len : Int) ≤ 9223372036854775807 := by
   have h1 : (maxLen : Int) ≤ 9223372036854775807 := by decide
   omega
  refine ⟨(List.range len).map f, ?_⟩
  have := RdN.node (op := op) (name := name) (n := n) (at_ := a) (kids := (List.range len).map f) (off := 0) hr (by rw [hlen]; exact hmx) (by rw [hlen]; omega) (fun i k hi => by
   rw [List.getElem?_map] at hi
   have hlt : i < len := by
    by_cases hi' : i < len
    ·exact hi'
    ·rw [List.getElem?_eq_none (by simp; omega)] at hi; cases hi
   rw [List.getElem?_range hlt] at hi
   injection hi with hi
   rw [← hi, Nat.zero_add]
   exact hf i hlt) ⟨h1, h2⟩
  rw [hlen] at this
  exact this
 | agg ht hl hp hd ih =>
  rename_i t fs xs parts
  refine ⟨fun e => ?_, fun e => (by subst e; rw [uK] at ht; cases ht)⟩
  subst e
  rw [uN] at ht
  injection ht with ht
  injection ht with ht
  subst ht
  rw [cNode] at hl
  obtain ⟨a0, a1, a2, a3, a4, rfl⟩ : ∃ a0 a1 a2 a3 a4, xs = [a0, a1, a2, a3, a4] := by
   match xs, hl with
   | [a0, a1, a2, a3, a4], _ => exact ⟨_, _, _, _, _, rfl⟩
  obtain ⟨d0, d1, d2, d3, d4, rfl⟩ : ∃ a0 a1 a2 a3 a4, parts = [a0, a1, a2, a3, a4] := by
   match parts, hp with
   | [a0, a1, a2, a3, a4], _ => exact ⟨_, _, _, _, _, rfl⟩
  obtain ⟨cs, ci, ck⟩ := c1
  have r0 := hd 0 f0 d0 rfl rfl
  have r1 := hd 1 f1 d1 rfl rfl
  have r2 := hd 2 f2 d2 rfl rfl
  have r3 := hd 3 f3 d3 rfl rfl
  have r4 := (ih 4 f4 d4 rfl rfl).2 t4
  rw [t0, o0, cs] at r0
  rw [t1, o1, cs] at r1
  rw [t2, o2, ci] at r2
  rw [t3, o3, ci] at r3
  rw [o4, t4, ck] at r4
  obtain ⟨s0, e0, b0⟩ := rd_str r0
  obtain ⟨s1, e1, b1⟩ := rd_str r1
  obtain ⟨s2, e2⟩ := rd_int r2
  obtain ⟨s3, e3⟩ := rd_int r3
  obtain ⟨ks, e4, hk⟩ := r4
  injection e0 with e0; injection e1 with e1; injection e2 with e2; injection e3 with e3; injection e4 with e4
  subst e0 e1 e2 e3 e4
  obtain ⟨kids, hk⟩ := hk s0 s1 s2 s3 b0 b1
  exact ⟨_, hk⟩
theorem rd_node {H : Type} {h : Hp} {xs : List AV} {d : DataW H} (r : Rd Tryd.prog h 24 xs d) : ∃ k, RdN h k xs := (rd_both r).1 rfl
end Go.Proofs.YtmjnbdkjekdkgaaDoor
