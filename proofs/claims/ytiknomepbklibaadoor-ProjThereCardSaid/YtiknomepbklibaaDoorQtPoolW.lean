/-
  Rows of numbers that calls make; sets in memory; a map's entries.
-/
import Derived.Test.YtiknomepbklibaaDoorQtTyg
import Derived.Test.YtiknomepbklibaaDoorQtArr
namespace Go.Proofs.YtiknomepbklibaaDoor
open Go Go.RowKit
set_option linter.unusedVariables false
set_option maxRecDepth 100000

abbrev Rows1 := List (Nat × Nat × List AV)
theorem zC_flat (l : List Int) : (zC l).flatten = l.map zAV := by
 induction l with
 | nil => rfl
 | cons z l ih => rw [zC, List.map_cons, List.flatten_cons]; show AV.int .i64 z :: (zC l).flatten = _; rw [ih]; rfl
/-- Nothing, or a row of numbers that may go on. -/
inductive ZAcc (n0 : Nat) : Rows1 → AV → List Int → Prop
  | none : ZAcc n0 [] .nils []
  | own {c m : Nat} {l : List Int} {rest : List AV} (hc : n0 ≤ c) (hb : l.length ≤ 1000000000) : ZAcc n0 [(c, m, l.map zAV ++ rest)] (.sl c m 0 l.length 1) l
theorem ZAcc.cell {n0 : Nat} {A : Rows1} {ks : AV} {l : List Int} (h : ZAcc n0 A ks l) : isCell ks = true := by cases h <;> rfl
theorem rdZ_pre {h : Hp} {c m : Nat} {l : List Int} {rest : List AV} (r : Row1 h c m (l.map zAV ++ rest)) (hb : l.length ≤ 1000000000) : RdR h [] 1 (zC l) (.sl c m 0 l.length 1) := by
 refine ⟨by rw [zC_len]; rfl, by rw [zC_len]; omega, rfl, fun i cs hi => ?_, fun c' m' off n z' e => ?_⟩
 ·have hlt := (List.getElem?_eq_some_iff.1 hi).1
  rw [zC_len] at hlt
  rw [zC_get (List.getElem?_eq_getElem hlt)] at hi
  injection hi with hi
  subst hi
  refine ⟨c, m, 0, _, by rw [zC_len], by simp, r.rowV, rfl, ?_⟩
  have e1 : (l.map zAV ++ rest)[i]? = some (zAV l[i]) := by
   rw [List.getElem?_append_left (by rw [List.length_map]; exact hlt), List.getElem?_map, List.getElem?_eq_getElem hlt]; rfl
  obtain ⟨hi2, e2⟩ := List.getElem?_eq_some_iff.1 e1
  rw [Nat.zero_add, Nat.mul_one, List.drop_eq_getElem_cons hi2, e2]
  rfl
 ·injection e with e1 e2 e3 e4 e5
  subst e1 e2 e3 e4 e5
  exact ⟨by simp, _, r.rowV, by simp⟩
section
variable {h0 : Hp} {n0 : Nat} {X : List Nat} {st st' : St} {M L A B : Rows1} {ks : AV} {l : List Int}
theorem Mem.zaccR (hM : Mem h0 n0 X st (L ++ (A ++ B))) {n1 : Nat} (hA : ZAcc n1 A ks l) : RdR st.h.get [] 1 (zC l) ks := by
 cases hA with
 | none => exact .nil _ _ _
 | own hc hb =>
  rename_i c m rest
  exact rdZ_pre (hM.row c m (l.map zAV ++ rest) (by simp)) hb
theorem Mem.rowMid (hM : Mem h0 n0 X st (L ++ ((A ++ B)))) {c m : Nat} {x : List AV} (h : (c, m, x) ∈ A) : Row1 st.h.get c m x := hM.row c m x (by simp [h])
theorem Mem.chgMid {c m : Nat} {x x' : List AV} (hM : Mem h0 n0 X st (L ++ ((c, m, x) :: B))) (q : Chg [c] st st') (hr : Row1 st'.h.get c m x') : Mem h0 n0 X st' (L ++ ((c, m, x') :: B)) := by
 have hp : (L ++ (c, m, x) :: B).Perm ((c, m, x) :: (L ++ B)) := List.perm_middle
 have h1 := hM.perm hp
 have h2 := h1.call1 (k := 0) rfl q hr
 exact Mem.perm (h2.cast (by rfl)) (List.perm_middle (l₁ := L) (l₂ := B) (a := (c, m, x'))).symm
end
theorem orderZ_len (l : List Int) : (orderZ l).length = l.length := List.length_mergeSort _
theorem compZ_len (l : List Int) : (compZ l).length = l.length := by
 have := compactI_le l
 simp [compZ]; omega
theorem nil_of_len {α : Type} {l : List α} (h : l.length = 0) : l = [] := List.length_eq_zero_iff.1 h
section
variable {h0 : Hp} {n0 : Nat} {X : List Nat} {st : St} {L A B : Rows1} {ks : AV} {l : List Int}
theorem sortZ_acc (hM : Mem h0 n0 X st (L ++ (A ++ B))) (hA : Acc n0 1 A ks (zC l)) (hb1 : l.length ≤ 1000000) :
  ∃ v st' A', Ev Tryd.prog envP 50 [ks] st v st' ∧ v = .tup [] ∧ Mem h0 n0 X st' (L ++ (A' ++ B)) ∧ Acc n0 1 A' ks (zC (orderZ l)) := by
 have hb := hA.bnd
 rw [zC_len] at hb
 have h00 : orderZ [] = [] := nil_of_len (orderZ_len [])
 generalize hg : zC l = ls at hA
 cases hA with
 | none =>
  have hl : l = [] := nil_of_len (by have h := congrArg List.length hg; rw [zC_len] at h; exact h)
  subst hl
  exact ⟨_, st, [], ev_sumPutZ0 (V0 := fun _ => .tup []) (F := orderZ) (V := sortZV) rfl hM.fresh, rfl, hM, by rw [h00]; exact .none⟩
 | own hc hz hb' =>
  rename_i c m
  subst hg
  by_cases hl : l = []
  ·subst hl
   exact ⟨_, st, _, ev_sumPutZ1 (V0 := fun _ => .tup []) (F := orderZ) (V := sortZV) rfl hM.fresh c m, rfl, hM, by rw [h00]; exact .own hc hz hb'⟩
  ·have hrow : Row1 st.h.get c m (zC l).flatten := hM.rowMid (A := [(c, m, (zC l).flatten)]) (by simp)
   have hs : intsOf (zC l).flatten = some l := by rw [zC_flat]; exact intsOf_map l
   obtain ⟨v, st', h1, h2, h3, h4⟩ := ev_sumPutZ (F := orderZ) (V := sortZV) (V0 := fun _ => .tup []) (G := envP) (P := Tryd.prog) (f := 50) rfl hM.fresh hrow hs hl hb1 (orderZ_len _)
   rw [← zC_flat] at h3
   refine ⟨v, st', [(c, m, (zC (orderZ l)).flatten)], ?_, h2, Mem.chgMid (L := L) (B := B) hM h4 h3, ?_⟩
   ·rw [zC_len]; exact h1
   ·have := Acc.own (m := m) (ls := zC (orderZ l)) hc (zC_one _) (by rw [zC_len, orderZ_len]; exact hb)
    rw [zC_len, orderZ_len] at this
    rw [zC_len]; exact this
theorem compZ_acc (hM : Mem h0 n0 X st (L ++ (A ++ B))) (hA : Acc n0 1 A ks (zC l)) (hb1 : l.length ≤ 1000000) :
  ∃ v st' A', Ev Tryd.prog envP 51 [ks] st v st' ∧ ZAcc n0 A' v (Lib.compact l) ∧ Mem h0 n0 X st' (L ++ (A' ++ B)) := by
 have hb := hA.bnd
 rw [zC_len] at hb
 have h00 : Lib.compact ([] : List Int) = [] := nil_of_len (Nat.le_zero.1 (compactI_le []))
 generalize hg : zC l = ls at hA
 cases hA with
 | none =>
  have hl : l = [] := nil_of_len (by have h := congrArg List.length hg; rw [zC_len] at h; exact h)
  subst hl
  exact ⟨.nils, st, [], ev_sumPutZ0 (V0 := id) (F := compZ) (V := compZV) rfl hM.fresh, by rw [h00]; exact .none, hM⟩
 | own hc hz hb' =>
  rename_i c m
  subst hg
  by_cases hl : l = []
  ·subst hl
   refine ⟨.sl c m 0 0 1, st, _, ev_sumPutZ1 (V0 := id) (F := compZ) (V := compZV) rfl hM.fresh c m, ?_, hM⟩
   rw [h00]
   exact .own (l := []) (rest := []) hc (by simp)
  ·have hrow : Row1 st.h.get c m (zC l).flatten := hM.rowMid (A := [(c, m, (zC l).flatten)]) (by simp)
   have hs : intsOf (zC l).flatten = some l := by rw [zC_flat]; exact intsOf_map l
   obtain ⟨v, st', h1, rfl, h3, h4⟩ := ev_sumPutZ (F := compZ) (V := compZV) (V0 := id) (G := envP) (P := Tryd.prog) (f := 51) rfl hM.fresh hrow hs hl hb1 (compZ_len l)
   refine ⟨compZV c m l, st', [(c, m, (compZ l).map zAV)], ?_, ?_, Mem.chgMid (L := L) (B := B) hM h4 h3⟩
   ·rw [zC_len]; exact h1
   ·rw [compZ, List.map_append]
    exact .own hc (Nat.le_trans (compactI_le l) hb)
theorem keyZ_ev (hM : Mem h0 n0 X st (L ++ (A ++ B))) {n1 : Nat} (hA : ZAcc n1 A ks l) (hi : In64 l) (hb1 : l.length ≤ 1000000) :
  ∃ v st', Ev Tryd.prog envP 63 [ks] st v st' ∧ v = .str (keyN l) ∧ Qt st st' := by
 have hq : Qt st st := ⟨hM.fresh, Nat.le_refl _, fun _ _ => rfl⟩
 cases hA with
 | none => exact ⟨.str [], st, ⟨0, 1, rfl⟩, rfl, hq⟩
 | own hc hb =>
  rename_i c m rest
  obtain ⟨vs, ms, h1, h2⟩ := hM.rowMid (A := [(c, m, l.map zAV ++ rest)]) (c := c) (m := m) (x := l.map zAV ++ rest) (by simp)
  have hall : l.all inR = true := List.all_eq_true.2 fun z hz => inR_eq.2 (hi z hz)
  refine ⟨.str (keyN l), st, ⟨0, 1, ?_⟩, rfl, hq⟩
  show sumKey [.sl c m 0 l.length 1] st = _
  unfold sumKey
  simp only [h1, h2]
  have ht : (l.map zAV ++ rest).take l.length = l.map zAV := by
   rw [List.take_append_of_le_length (by simp), List.take_of_length_le (by simp)]
  rw [ht, intsOf_map]
  simp only []
  rw [if_pos ⟨trivial, hb1, hall⟩, keyF_eq hall]
end
end Go.Proofs.YtiknomepbklibaaDoor
