/-
  slices.Sort and slices.Compact of rows of one's own.
-/
import Derived.Test.YtmjnbdkjekdkgaaDoorFbTrN
namespace Go.Proofs.YtmjnbdkjekdkgaaDoor
open Go Go.RowKit
set_option linter.unusedVariables false

def toB (s : List Nat) : List UInt8 := s.map UInt8.ofNat
def ofB (s : List UInt8) : List Nat := s.map UInt8.toNat
/-- Texts in their order; without doubles. -/
def sortN (l : List (List Nat)) : List (List Nat) := (sortB (l.map toB)).map ofB
def compN (l : List (List Nat)) : List (List Nat) := (Lib.compact (l.map toB)).map ofB
theorem txC_flat (l : List (List Nat)) : (txC l).flatten = l.map AV.str := by
 induction l with
 | nil => rfl
 | cons s l ih => rw [List.map_cons, ← ih]; rfl
theorem bAV_txC (zs : List (List UInt8)) : zs.map bAV = (txC (zs.map ofB)).flatten := by
 rw [txC_flat, List.map_map]; rfl
theorem sortB_len (zs : List (List UInt8)) : (sortB zs).length = zs.length := List.length_mergeSort _
theorem sortN_len (l : List (List Nat)) : (sortN l).length = l.length := by simp [sortN, sortB_len]
theorem Mem.row1' {h0 : Hp} {n0 : Nat} {st : St} {M : List (Nat × Nat × List AV)} (hM : Mem h0 n0 [] st M) {c m : Nat} {l : List AV} (h : (c, m, l) ∈ M) : Row1 st.h.get c m l := hM.row c m l h
theorem Mem.chgRow {h0 : Hp} {n0 : Nat} {st st' : St} {L B : List (Nat × Nat × List AV)} {c m : Nat} {l l' : List AV} (hM : Mem h0 n0 [] st (L ++ ((c, m, l) :: B))) (q : Chg [c] st st') (hr : Row1 st'.h.get c m l') : Mem h0 n0 [] st' (L ++ ((c, m, l') :: B)) := by
 have hp : (L ++ (c, m, l) :: B).Perm ((c, m, l) :: (L ++ B)) := List.perm_middle
 have h1 := hM.perm hp
 have h2 := h1.call1 (k := 0) rfl q hr
 exact Mem.perm (h2.cast (by rfl)) (List.perm_middle (l₁ := L) (l₂ := B) (a := (c, m, l'))).symm
theorem sort_acc {h0 : Hp} {n0 : Nat} {st : St} {L A B : List (Nat × Nat × List AV)} {ks : AV} {l : List (List Nat)} (hM : Mem h0 n0 [] st (L ++ (A ++ B))) (hA : Acc n0 1 A ks (txC l)) :
  ∃ v st' A', Ev Tryd.prog envD 49 [ks] st v st' ∧ v = .tup [] ∧ Mem h0 n0 [] st' (L ++ (A' ++ B)) ∧ Acc n0 1 A' ks (txC (sortN l)) := by
 have hlen := hA.len
 have hb := hA.bnd
 rw [Jc] at hlen hb
 generalize hg : txC l = ls at hA
 cases hA with
 | none =>
  have hl : l = [] := by
   have h := congrArg List.length hg
   rw [Jc] at h
   exact List.length_eq_zero_iff.1 h
  subst hl
  exact ⟨_, st, [], ev_sumPut0 (V0 := fun _ => .tup []) (F := sortB) (V := sortV) rfl hM.fresh, rfl, hM, by
   have : sortN [] = [] := List.length_eq_zero_iff.1 (sortN_len [])
   rw [this]; exact .none⟩
 | own hc hz hb' =>
  rename_i c m
  subst hg
  by_cases hl : l = []
  ·subst hl
   have : sortN [] = [] := List.length_eq_zero_iff.1 (sortN_len [])
   exact ⟨_, st, _, ev_sumPut1 (V0 := fun _ => .tup []) (F := sortB) (V := sortV) rfl hM.fresh c m, rfl, hM, by rw [this]; exact .own hc hz hb'⟩
  ·have hrow := hM.row1' (c := c) (m := m) (l := (txC l).flatten) (by simp)
   have hs : strsOf (txC l).flatten = some (l.map toB) := by rw [txC_flat]; exact strsOf_str l
   obtain ⟨v, st', h1, h2, h3, h4⟩ := ev_sumPut (F := sortB) (V := sortV) (V0 := fun _ => .tup []) (G := envD) (P := Tryd.prog) (f := 49) rfl hM.fresh hrow hs (by simpa using hl) (by simpa using hb) (sortB_len _)
   have h5 : (sortB (l.map toB)).map bAV = (txC (sortN l)).flatten := bAV_txC _
   rw [h5] at h3
   refine ⟨v, st', [(c, m, (txC (sortN l)).flatten)], ?_, h2, Mem.chgRow (L := L) (B := B) hM h4 h3, ?_⟩
   ·rw [Jc]; rw [List.length_map] at h1; exact h1
   ·have := Acc.own (m := m) (ls := txC (sortN l)) hc (txC_one _) (by rw [Jc, sortN_len]; exact hb)
    rw [Jc, sortN_len] at this
    rw [Jc]
    exact this
theorem rd_pre {h : Hp} {c m : Nat} {l : List (List Nat)} {rest : List AV} (r : Row1 h c m (l.map AV.str ++ rest)) (hb : l.length ≤ 1000000) : RdR h [] 1 (txC l) (.sl c m 0 l.length 1) := by
 refine ⟨by rw [Jc]; rfl, by rw [Jc]; omega, rfl, fun i cs hi => ?_, fun c' m' off n z' e => ?_⟩
 ·have hlt : i < l.length := by
   have := (List.getElem?_eq_some_iff.1 hi).1
   rw [Jc] at this; exact this
  rw [txC_get (List.getElem?_eq_getElem hlt)] at hi
  injection hi with hi
  subst hi
  refine ⟨c, m, 0, _, by rw [Jc], by simp, r.rowV, rfl, ?_⟩
  rw [Nat.zero_add, Nat.mul_one, List.drop_append_of_le_length (by rw [List.length_map]; omega), List.drop_eq_getElem_cons (by rw [List.length_map]; exact hlt)]
  simp
 ·injection e with e1 e2 e3 e4 e5
  subst e1 e2 e3 e4 e5
  exact ⟨by simp, _, r.rowV, by simp⟩
theorem compN_len (l : List (List Nat)) : (compN l).length ≤ l.length := by
 have := compact_le (l.map toB)
 simpa [compN] using this
theorem comp_acc {h0 : Hp} {n0 : Nat} {st : St} {L A B : List (Nat × Nat × List AV)} {ks : AV} {l : List (List Nat)} (hM : Mem h0 n0 [] st (L ++ (A ++ B))) (hA : Acc n0 1 A ks (txC l)) :
  ∃ v st' A', Ev Tryd.prog envD 50 [ks] st v st' ∧ RdR st'.h.get [] 1 (txC (compN l)) v ∧ Mem h0 n0 [] st' (L ++ (A' ++ B)) := by
 have hb := hA.bnd
 rw [Jc] at hb
 generalize hg : txC l = ls at hA
 have hcn : compN [] = [] := List.length_eq_zero_iff.1 (Nat.le_zero.1 (compN_len []))
 cases hA with
 | none =>
  have hl : l = [] := by
   have h := congrArg List.length hg
   rw [Jc] at h
   exact List.length_eq_zero_iff.1 h
  subst hl
  exact ⟨.nils, st, [], ev_sumPut0 (V0 := id) (F := compB) (V := compV) rfl hM.fresh, by rw [hcn]; exact .nil _ _ _, hM⟩
 | own hc hz hb' =>
  rename_i c m
  subst hg
  by_cases hl : l = []
  ·subst hl
   refine ⟨.sl c m 0 0 1, st, _, ev_sumPut1 (V0 := id) (F := compB) (V := compV) rfl hM.fresh c m, ?_, hM⟩
   rw [hcn]
   have hrow := hM.row1' (c := c) (m := m) (l := (txC []).flatten) (by simp)
   exact rd_pre (l := []) (rest := []) hrow (by simp)
  ·have hrow := hM.row1' (c := c) (m := m) (l := (txC l).flatten) (by simp)
   have hs : strsOf (txC l).flatten = some (l.map toB) := by rw [txC_flat]; exact strsOf_str l
   obtain ⟨v, st', h1, rfl, h3, h4⟩ := ev_sumPut (F := compB) (V := compV) (V0 := id) (G := envD) (P := Tryd.prog) (f := 50) rfl hM.fresh hrow hs (by simpa using hl) (by simpa using hb) (by have := compact_le (l.map toB); simp only [compB, List.length_append, List.length_replicate]; omega)
   refine ⟨compV c m (l.map toB), st', [(c, m, (compB (l.map toB)).map bAV)], ?_, ?_, Mem.chgRow (L := L) (B := B) hM h4 h3⟩
   ·rw [Jc]; rw [List.length_map] at h1; exact h1
   ·have e : (compB (l.map toB)).map bAV = (compN l).map AV.str ++ (List.replicate ((l.map toB).length - (Lib.compact (l.map toB)).length) []).map bAV := by
     rw [compB, List.map_append, compN, List.map_map]; rfl
    rw [e] at h3
    have := rd_pre h3 (Nat.le_trans (compN_len l) hb)
    have hn : (compN l).length = (Lib.compact (l.map toB)).length := by simp [compN]
    rw [hn] at this
    exact this
end Go.Proofs.YtmjnbdkjekdkgaaDoor
