/-
  Rows of one's own, read and written by place.
-/
import Derived.Test.YtiknomepbklibaaGreatDoorZoMo
namespace Go.Proofs.YtiknomepbklibaaGreatDoor
open Go Go.RowKit
set_option linter.unusedVariables false

theorem om_get {α : Type} (f : α → AV) {L : List α} {j : Nat} {x : α} (h : L[j]? = some x) : nth (L.map f) (0 + j * 1) = some (f x) := by
 rw [nth_eq, Nat.zero_add, Nat.mul_one, List.getElem?_map, h]; rfl
theorem om_set {α : Type} (f : α → AV) (w : α) : ∀ {L : List α} {j : Nat}, j < L.length → overL [f w] (0 + j * 1) (L.map f) = some ((L.set j w).map f) := by
 intro L j h
 rw [Nat.zero_add, Nat.mul_one]
 induction L generalizing j with
 | nil => simp at h
 | cons a L ih =>
  cases j with
  | zero => rfl
  | succ j =>
   rw [List.map_cons, overL_succ, ih (by simpa using h)]; rfl
theorem flat_map1 {α : Type} (f : α → AV) (L : List α) : (L.map fun x => [f x]).flatten = L.map f := by
 induction L with
 | nil => rfl
 | cons a L ih => rw [List.map_cons, List.flatten_cons, ih]; rfl
theorem Acc.openM {α : Type} {f : α → AV} {n0 : Nat} {A : Rows2} {ks : AV} {L : List α} (hA : Acc n0 1 A ks (L.map fun x => [f x])) (hL : 0 < L.length) : ∃ c m, ks = .sl c m 0 L.length 1 ∧ A = [(c, m, L.map f)] := by
 generalize hg : (L.map fun x => [f x]) = ls at hA
 cases hA with
 | none => have h0 := congrArg List.length hg; rw [List.length_map, List.length_nil] at h0; omega
 | own h1 h2 h3 =>
  rename_i c m
  subst hg
  exact ⟨c, m, by rw [List.length_map], by rw [flat_map1]⟩
theorem Acc.ofM {α : Type} (f : α → AV) {c m : Nat} {L : List α} (hb : L.length ≤ 1000000000) : Acc 0 1 [(c, m, L.map f)] (.sl c m 0 L.length 1) (L.map fun x => [f x]) := by
 have := Acc.own (n0 := 0) (z := 1) (c := c) (m := m) (ls := L.map fun x => [f x]) (Nat.zero_le _) (fun cs hc => by obtain ⟨x, _, rfl⟩ := List.mem_map.1 hc; rfl) (by rw [List.length_map]; exact hb)
 rw [flat_map1, List.length_map] at this
 exact this
theorem Row1.rdM {α : Type} {f : α → AV} {h : Hp} {c m n : Nat} {L : List α} (r : Row1 h c m (L.map f)) (hn : L.length = n) (hb : L.length ≤ 1000000000) : RdR h [] 1 (L.map fun x => [f x]) (.sl c m 0 n 1) := by
 subst hn
 have := RdR.own (X := []) (z := 1) (ls := L.map fun x => [f x]) (c := c) (m := m) (by rw [flat_map1]; exact r) (fun cs hc => by obtain ⟨x, _, rfl⟩ := List.mem_map.1 hc; rfl) (by simp) (by rw [List.length_map]; omega)
 rw [List.length_map] at this
 exact this
section
variable {P : Program} {G : Env} {N : Nat} {h0 : Hp} {n0 : Nat} {X : List Nat} {st : St} {M : Rows2} {T : Tr AV} {ops rest : List Oper} {K : List (Nat × AV)} {R : Tr AV → St → Prop} {d : Nat} {t ty : TypeId} {pos : String} {af : Array Edge}
theorem repL_one {α : Type} (z : α) : ∀ n, repL n [z] = List.replicate n z
 | 0 => rfl
 | n + 1 => by rw [List.replicate_succ, ← repL_one z n]; show appL [z] (repL n [z]) = _; rw [appL_eq]; rfl
theorem wr_makeS {α : Type} (f : α → AV) (z : α) {x : Operand} {n : Nat} {e : TypeId} (hK : KnT K T) (hM : Mem h0 n0 X st M) (S : SlT P t e 1) (hz : zeroOf P e = some [f z]) (hx : opK G K x = some (.int .i64 ((n : Nat) : Int))) (hb : n ≤ 1000000000) (hN : Nat.ble (d + 1) N = true)
  (hn : ∀ (c : Nat) T' st', KnT ((d, .sl c 0 0 n 1) :: K) T' → Mem h0 n0 X st' ((c, 0, (List.replicate n z).map f) :: M) → WR P G N ops rest R T' st') : WR P G N ops (⟨some d, .makeSlice t x x, ty, pos, af, none⟩ :: rest) R T st := by
 refine wr_op (v := .sl st.n 0 0 n 1) (st1 := ⟨st.n + 1, st.h.set st.n (.row false [(((List.replicate n z).map f).length, 0, some ((List.replicate n z).map f))])⟩) hK (.of fun T hT c d ty pos af g => ?_) (Nat.le_of_ble_eq_true hN) fun T' hT' => hn st.n T' _ hT' (hM.alloc _)
 show (ob (opd G T x) fun a => ob (opd G T x) fun b => makeSliceA P t a b st) = _
 rw [hT.opd hx, ob_some, ob_some]
 unfold makeSliceA
 have h1 : toN ((n : Nat) : Int) = some n := rfl
 simp only [S.u, h1, ob_some, S.s, need_true', hz, S.c]
 rw [show Nat.beq (lenL [f z]) 1 = true from rfl, show Nat.ble 1 (lenL [f z]) = true from rfl, Nat.ble_eq_true_of_le (Nat.le_refl n), Nat.ble_eq_true_of_le hb, Nat.ble_eq_true_of_le S.b]
 simp only [need_true', memRow_eq, sNat_eq, repL_one, List.map_replicate]
end
end Go.Proofs.YtiknomepbklibaaGreatDoor
