/-
  Numbers that a call is handed, by rows.
-/
import Derived.ChangeShapes
import Derived.ChangeOld
import Derived.Below
import Derived.Carry
import Derived.Test.YtiknomepbklibaaGreatDoorZoSy2
import Derived.Test.YtiknomepbklibaaGreatDoorZoTyg
import Derived.Test.YtiknomepbklibaaGreatDoorProg
section
namespace Go.Proofs.YtiknomepbklibaaGreatDoor
open Go Go.RowKit
set_option linter.unusedVariables false
set_option maxRecDepth 100000

/-- A row of things, each of its own cells. -/
structure RowsZ {K : Type} (h : Hp) (z : Nat) (R : K → List AV → Prop) (l : List K) (kk : AV) (ls : List (List AV)) : Prop where
  r : RdR h [] z ls kk
  ln : ls.length = l.length
  at_ : ∀ (i : Nat) (k : K), l[i]? = some k → ∃ cs, ls[i]? = some cs ∧ R k cs
theorem rd_rowsZ {K : Type} {h : Hp} {z : Nat} {R : K → List AV → Prop} {H : Type} {P : Program} {t e : TypeId} (k0 : K) (hu : P.underlying t = some (.slice e)) (hz : P.cellsOf e = z) (hR : ∀ (cs : List AV) (d : DataW H), Rd P h e cs d → ∃ k, R k cs) {xs : List AV} {d : DataW H} (r : Rd P h t xs d) :
  ∃ ks l ls, xs = [ks] ∧ RowsZ h z R l ks ls := by
 cases r with
 | bool ht => rw [hu] at ht; cases ht
 | int ht hw => rw [hu] at ht; cases ht
 | str ht hs => rw [hu] at ht; cases ht
 | nil ht => exact ⟨_, [], [], rfl, ⟨.nil _ _ _, rfl, fun i k hi => by simp at hi⟩⟩
 | none ht => exact ⟨_, [], [], rfl, ⟨⟨rfl, by simp, rfl, fun i cs hi => by simp at hi, fun _ _ _ _ _ e => by cases e⟩, rfl, fun i k hi => by simp at hi⟩⟩
 | row ht hz' hr hl he hm hd =>
  rename_i e' c m len cells elems rest
  rw [hu] at ht
  injection ht with ht
  injection ht with ht
  subst ht
  subst hz
  have hk : ∀ i, ∃ k, i < len → R k ((cells.drop (i * P.cellsOf e)).take (P.cellsOf e)) := fun i => by
   by_cases hi : i < len
   ·obtain ⟨k, hk⟩ := hR _ _ (hd i elems[i] (List.getElem?_eq_getElem (he ▸ hi)))
    exact ⟨k, fun _ => hk⟩
   ·exact ⟨k0, fun h => absurd h hi⟩
  obtain ⟨f, hf⟩ := Classical.axiomOfChoice hk
  have hmx : (len : Int) ≤ 9223372036854775807 := by
   have h1 : (maxLen : Int) ≤ 9223372036854775807 := by decide
   omega
  have hlen : ((List.range len).map fun i => (cells.drop (i * P.cellsOf e)).take (P.cellsOf e)).length = len := by simp
  have hfit : ∀ i, i < len → i * P.cellsOf e + P.cellsOf e ≤ cells.length := fun i hi => by
   have := Nat.mul_le_mul_right (P.cellsOf e) (show i + 1 ≤ len from hi)
   rw [Nat.succ_mul] at this
   omega
  refine ⟨_, (List.range len).map f, (List.range len).map fun i => (cells.drop (i * P.cellsOf e)).take (P.cellsOf e), rfl, ⟨⟨by rw [hlen]; rfl, by rw [hlen]; exact hmx, rfl, fun i cs hi => ?_, fun c' m' off' n' z' e' => ?_⟩, by simp, fun i k hi => ?_⟩⟩
  ·rw [List.getElem?_map] at hi
   have hlt : i < len := by
    by_cases hi' : i < len
    ·exact hi'
    ·rw [List.getElem?_eq_none (by simp; omega)] at hi; cases hi
   rw [List.getElem?_range hlt] at hi
   injection hi with hi
   refine ⟨c, m, 0, cells, by rw [hlen], by simp, hr, ?_, by rw [Nat.zero_add]; exact hi⟩
   rw [← hi, List.length_take, List.length_drop]
   have := hfit i hlt
   omega
  ·injection e' with e1 e2 e3 e4 e5
   subst e1 e2 e3 e4 e5
   exact ⟨by simp, cells, hr, by omega⟩
  ·rw [List.getElem?_map] at hi
   have hlt : i < len := by
    by_cases hi' : i < len
    ·exact hi'
    ·rw [List.getElem?_eq_none (by simp; omega)] at hi; cases hi
   rw [List.getElem?_range hlt] at hi
   injection hi with hi
   refine ⟨_, ?_, by rw [← hi]; exact hf i hlt⟩
   rw [List.getElem?_map, List.getElem?_range hlt]; rfl
 | agg ht hl hp hd => rw [hu] at ht; cases ht
/-- Numbers' cells. -/
def zC (l : List Int) : List (List AV) := l.map fun z => [AV.int .i64 z]
theorem zC_len (l : List Int) : (zC l).length = l.length := by simp [zC]
theorem zC_get {l : List Int} {i : Nat} {z : Int} (h : l[i]? = some z) : (zC l)[i]? = some [AV.int .i64 z] := by rw [zC, List.getElem?_map, h]; rfl
theorem zC_app (a b : List Int) : zC (a ++ b) = zC a ++ zC b := by simp [zC]
theorem zC_one (l : List Int) : ∀ cs ∈ zC l, cs.length = 1 := by
 intro cs h
 obtain ⟨s, _, rfl⟩ := List.mem_map.1 h
 rfl
def In64 (l : List Int) : Prop := ∀ z ∈ l, -9223372036854775808 ≤ z ∧ z ≤ 9223372036854775807
def IntR (z : Int) (cs : List AV) : Prop := cs = [.int .i64 z] ∧ -9223372036854775808 ≤ z ∧ z ≤ 9223372036854775807
theorem rows_zC {h : Hp} {l : List Int} {kk : AV} {ls : List (List AV)} (H : RowsZ h 1 IntR l kk ls) : RdR h [] 1 (zC l) kk ∧ In64 l := by
 have e : ls = zC l := by
  apply List.ext_getElem?
  intro i
  cases hi : l[i]? with
  | none =>
   have h1 := List.getElem?_eq_none_iff.1 hi
   rw [List.getElem?_eq_none (by rw [H.ln]; exact h1), List.getElem?_eq_none (by rw [zC_len]; exact h1)]
  | some z =>
   obtain ⟨cs, h1, h2, _⟩ := H.at_ i z hi
   rw [h1, zC_get hi, h2]
 refine ⟨e ▸ H.r, fun z hz => ?_⟩
 obtain ⟨i, hi, rfl⟩ := List.mem_iff_getElem.1 hz
 obtain ⟨cs, _, _, h3⟩ := H.at_ i _ (List.getElem?_eq_getElem hi)
 exact h3
theorem rd_intZ {H : Type} {h : Hp} {xs : List AV} {d : DataW H} (r : Rd Tryz.prog h 3 xs d) : ∃ z : Int, IntR z xs := by
 cases r with
 | bool ht => rw [un_int] at ht; cases ht
 | int ht hw =>
  rw [un_int] at ht
  injection ht with ht
  injection ht with ht
  subst ht
  simp only [Lit.wf, Bool.and_eq_true, decide_eq_true_eq] at hw
  refine ⟨_, rfl, ?_⟩
  first
   | exact hw
   | (have h1 : IntKind.i64.wrap _ = _ := hw; have := IntWalk.i64_bounds h1; exact this)
   | skip
 | str ht hs => rw [un_int] at ht; cases ht
 | nil ht => rw [un_int] at ht; cases ht
 | none ht => rw [un_int] at ht; cases ht
 | row ht hz' hr hl he hm hd => rw [un_int] at ht; cases ht
 | agg ht hl hp hd => rw [un_int] at ht; cases ht
theorem rd_intsZ {H : Type} {h : Hp} {xs : List AV} {d : DataW H} (r : Rd Tryz.prog h 54 xs d) : ∃ ks l, xs = [ks] ∧ RdR h [] 1 (zC l) ks ∧ In64 l := by
 obtain ⟨ks, l, ls, e, H⟩ := rd_rowsZ (R := IntR) 0 un_S_int ce_int (fun cs d r => rd_intZ r) r
 exact ⟨ks, l, e, rows_zC H⟩
end Go.Proofs.YtiknomepbklibaaGreatDoor
end
section
namespace Go.Proofs.YtiknomepbklibaaGreatDoor
open Go
set_option maxRecDepth 100000

theorem tk_S_S_int : tk Tryz.prog 23 = .one := by kernel_rfl
theorem sz_S_S_int : sizeA Tryz.prog 23 = some 1 := by kernel_rfl
theorem ce_S_S_int : Tryz.prog.cellsOf 23 = 1 := by kernel_rfl
theorem un_S_S_int : Tryz.prog.underlying 23 = some (.slice 54) := by kernel_rfl
theorem el_S_S_int : elemOfA Tryz.prog 23 = some 1 := by kernel_rfl
theorem tk_P_pool_Pool : tk Tryz.prog 68 = .one := by kernel_rfl
theorem un_P_pool_Pool : Tryz.prog.underlying 68 = some (.pointer 97) := by kernel_rfl
theorem tk_M_string_int : tk Tryz.prog 95 = .one := by kernel_rfl
theorem ze_pool_Pool : zeroOf Tryz.prog 97 = some [.nils, .nilm] := by kernel_rfl
theorem fo_pool_Pool_0 : fieldOff Tryz.prog 97 0 = some 0 := by kernel_rfl
theorem fo_pool_Pool_1 : fieldOff Tryz.prog 97 1 = some 1 := by kernel_rfl
theorem st_pool_Pool : StT Tryz.prog 97 [(0, 1), (1, 1)] [.nils, .nilm] := ⟨⟨_, Tryz.underlying97, by kernel_rfl, by kernel_rfl⟩, ze_pool_Pool⟩
theorem sl_S_S_int : SlT Tryz.prog 23 54 1 := ⟨un_S_S_int, by kernel_rfl, ⟨_, ze_S_int, rfl⟩, by kernel_rfl, by decide, by decide +kernel⟩
theorem un_M_string_int : Tryz.prog.underlying 95 = some (.map 9 3) := by kernel_rfl
end Go.Proofs.YtiknomepbklibaaGreatDoor
end
section
namespace Go.Proofs.YtiknomepbklibaaGreatDoor
open Go
set_option linter.unusedVariables false

section
variable {P : Program} {G : Env} {K : List (Nat × AV)} {st : St} {t yt e : TypeId} {x y : Operand}
theorem os_eqPN {c m o : Nat} (ht : P.underlying t = some (.pointer e)) (hx : opK G K x = some (.ptr c m o)) (hy : opK G K y = some .nilp) : OpS P G K (.binOp .eql t x y yt) st (.bool false) st :=
 os_bin hx hy (by
  show need (eqFits (P.underlying t) (.ptr c m o)) (ob (eqNil (.ptr c m o) .nilp) fun b => some (AV.bool b)) = _
  rw [ht]; rfl)
theorem os_nePN {c m o : Nat} (ht : P.underlying t = some (.pointer e)) (hx : opK G K x = some (.ptr c m o)) (hy : opK G K y = some .nilp) : OpS P G K (.binOp .neq t x y yt) st (.bool true) st :=
 os_bin hx hy (by
  show need (eqFits (P.underlying t) (.ptr c m o)) (ob (eqNil (.ptr c m o) .nilp) fun b => some (AV.bool !b)) = _
  rw [ht]; rfl)
end
end Go.Proofs.YtiknomepbklibaaGreatDoor
end
section
namespace Go.Proofs.YtiknomepbklibaaGreatDoor
open Go
set_option linter.unusedVariables false

theorem ce_int1 : Program.cellsOf Tryz.prog 3 = 1 := by kernel_rfl
/-- Is a row nil? -/
def nilB : AV → Bool
  | .nils => true
  | _ => false
theorem os_eqNilA {P : Program} {G : Env} {K : List (Nat × AV)} {st : St} {t yt e : TypeId} {x y : Operand} {kb : AV} {n : Nat} (hn : slLen kb = some n) (ht : P.underlying t = some (.slice e)) (hx : opK G K x = some kb) (hy : opK G K y = some .nils) : OpS P G K (.binOp .eql t x y yt) st (.bool (nilB kb)) st :=
 os_bin hx hy (by
  cases kb <;> first | (cases hn; done) | skip
  all_goals
   show need (eqFits (P.underlying t) _) (ob (eqNil _ .nils) fun b => some (AV.bool b)) = _
   rw [ht]; rfl)
theorem nilB_eq {kb : AV} (h : nilB kb = true) : kb = .nils := by cases kb <;> first | rfl | cases h
end Go.Proofs.YtiknomepbklibaaGreatDoor
end
section
namespace Go.Proofs.YtiknomepbklibaaGreatDoor
open Go Go.RowKit
set_option linter.unusedVariables false
set_option maxRecDepth 100000

abbrev Rows1 := List (Nat × Nat × List AV)
theorem zC_flat (l : List Int) : (zC l).flatten = l.map zAV := by
 induction l with
 | nil => rfl
 | cons z l ih => rw [zC, List.map_cons, List.flatten_cons]; show AV.int .i64 z :: (zC l).flatten = _; rw [ih]; rfl
/-- Nothing, or a row of numbers that may go on. -/
inductive ZAcc (n0 : Nat) : Rows1 → AV → List Int → Prop
  | none : ZAcc n0 [] .nils []
  | own {c m : Nat} {l : List Int} {rest : List AV} (hc : n0 ≤ c) (hb : l.length ≤ 1000000000) : ZAcc n0 [(c, m, l.map zAV ++ rest)] (.sl c m 0 l.length 1) l
theorem ZAcc.cell {n0 : Nat} {A : Rows1} {ks : AV} {l : List Int} (h : ZAcc n0 A ks l) : isCell ks = true := by cases h <;> rfl
theorem rdZ_pre {h : Hp} {c m : Nat} {l : List Int} {rest : List AV} (r : Row1 h c m (l.map zAV ++ rest)) (hb : l.length ≤ 1000000000) : RdR h [] 1 (zC l) (.sl c m 0 l.length 1) := by
 refine ⟨by rw [zC_len]; rfl, by rw [zC_len]; omega, rfl, fun i cs hi => ?_, fun c' m' off n z' e => ?_⟩
 ·have hlt := (List.getElem?_eq_some_iff.1 hi).1
  rw [zC_len] at hlt
  rw [zC_get (List.getElem?_eq_getElem hlt)] at hi
  injection hi with hi
  subst hi
  refine ⟨c, m, 0, _, by rw [zC_len], by simp, r.rowV, rfl, ?_⟩
  have e1 : (l.map zAV ++ rest)[i]? = some (zAV l[i]) := by
   rw [List.getElem?_append_left (by rw [List.length_map]; exact hlt), List.getElem?_map, List.getElem?_eq_getElem hlt]; rfl
  obtain ⟨hi2, e2⟩ := List.getElem?_eq_some_iff.1 e1
  rw [Nat.zero_add, Nat.mul_one, List.drop_eq_getElem_cons hi2, e2]
  rfl
 ·injection e with e1 e2 e3 e4 e5
  subst e1 e2 e3 e4 e5
  exact ⟨by simp, _, r.rowV, by simp⟩
section
variable {h0 : Hp} {n0 : Nat} {X : List Nat} {st st' : St} {M L A B : Rows1} {ks : AV} {l : List Int}
theorem Mem.zaccR (hM : Mem h0 n0 X st (L ++ (A ++ B))) {n1 : Nat} (hA : ZAcc n1 A ks l) : RdR st.h.get [] 1 (zC l) ks := by
 cases hA with
 | none => exact .nil _ _ _
 | own hc hb =>
  rename_i c m rest
  exact rdZ_pre (hM.row c m (l.map zAV ++ rest) (by simp)) hb
theorem Mem.rowMid (hM : Mem h0 n0 X st (L ++ ((A ++ B)))) {c m : Nat} {x : List AV} (h : (c, m, x) ∈ A) : Row1 st.h.get c m x := hM.row c m x (by simp [h])
theorem Mem.chgMid {c m : Nat} {x x' : List AV} (hM : Mem h0 n0 X st (L ++ ((c, m, x) :: B))) (q : Chg [c] st st') (hr : Row1 st'.h.get c m x') : Mem h0 n0 X st' (L ++ ((c, m, x') :: B)) := by
 have hp : (L ++ (c, m, x) :: B).Perm ((c, m, x) :: (L ++ B)) := List.perm_middle
 have h1 := hM.perm hp
 have h2 := h1.call1 (k := 0) rfl q hr
 exact Mem.perm (h2.cast (by rfl)) (List.perm_middle (l₁ := L) (l₂ := B) (a := (c, m, x'))).symm
end
theorem orderZ_len (l : List Int) : (orderZ l).length = l.length := List.length_mergeSort _
theorem compZ_len (l : List Int) : (compZ l).length = l.length := by
 have := compactI_le l
 simp [compZ]; omega
theorem nil_of_len {α : Type} {l : List α} (h : l.length = 0) : l = [] := List.length_eq_zero_iff.1 h
section
variable {h0 : Hp} {n0 : Nat} {X : List Nat} {st : St} {L A B : Rows1} {ks : AV} {l : List Int}
theorem sortZ_acc (hM : Mem h0 n0 X st (L ++ (A ++ B))) (hA : Acc n0 1 A ks (zC l)) (hb1 : l.length ≤ 1000000) :
  ∃ v st' A', Ev Tryz.prog envP 66 [ks] st v st' ∧ v = .tup [] ∧ Mem h0 n0 X st' (L ++ (A' ++ B)) ∧ Acc n0 1 A' ks (zC (orderZ l)) := by
 have hb := hA.bnd
 rw [zC_len] at hb
 have h00 : orderZ [] = [] := nil_of_len (orderZ_len [])
 generalize hg : zC l = ls at hA
 cases hA with
 | none =>
  have hl : l = [] := nil_of_len (by have h := congrArg List.length hg; rw [zC_len] at h; exact h)
  subst hl
  exact ⟨_, st, [], ev_sumPutZ0 (V0 := fun _ => .tup []) (F := orderZ) (V := sortZV) rfl hM.fresh, rfl, hM, by rw [h00]; exact .none⟩
 | own hc hz hb' =>
  rename_i c m
  subst hg
  by_cases hl : l = []
  ·subst hl
   exact ⟨_, st, _, ev_sumPutZ1 (V0 := fun _ => .tup []) (F := orderZ) (V := sortZV) rfl hM.fresh c m, rfl, hM, by rw [h00]; exact .own hc hz hb'⟩
  ·have hrow : Row1 st.h.get c m (zC l).flatten := hM.rowMid (A := [(c, m, (zC l).flatten)]) (by simp)
   have hs : intsOf (zC l).flatten = some l := by rw [zC_flat]; exact intsOf_map l
   obtain ⟨v, st', h1, h2, h3, h4⟩ := ev_sumPutZ (F := orderZ) (V := sortZV) (V0 := fun _ => .tup []) (G := envP) (P := Tryz.prog) (f := 66) rfl hM.fresh hrow hs hl hb1 (orderZ_len _)
   rw [← zC_flat] at h3
   refine ⟨v, st', [(c, m, (zC (orderZ l)).flatten)], ?_, h2, Mem.chgMid (L := L) (B := B) hM h4 h3, ?_⟩
   ·rw [zC_len]; exact h1
   ·have := Acc.own (m := m) (ls := zC (orderZ l)) hc (zC_one _) (by rw [zC_len, orderZ_len]; exact hb)
    rw [zC_len, orderZ_len] at this
    rw [zC_len]; exact this
theorem compZ_acc (hM : Mem h0 n0 X st (L ++ (A ++ B))) (hA : Acc n0 1 A ks (zC l)) (hb1 : l.length ≤ 1000000) :
  ∃ v st' A', Ev Tryz.prog envP 67 [ks] st v st' ∧ ZAcc n0 A' v (Lib.compact l) ∧ Mem h0 n0 X st' (L ++ (A' ++ B)) := by
 have hb := hA.bnd
 rw [zC_len] at hb
 have h00 : Lib.compact ([] : List Int) = [] := nil_of_len (Nat.le_zero.1 (compactI_le []))
 generalize hg : zC l = ls at hA
 cases hA with
 | none =>
  have hl : l = [] := nil_of_len (by have h := congrArg List.length hg; rw [zC_len] at h; exact h)
  subst hl
  exact ⟨.nils, st, [], ev_sumPutZ0 (V0 := id) (F := compZ) (V := compZV) rfl hM.fresh, by rw [h00]; exact .none, hM⟩
 | own hc hz hb' =>
  rename_i c m
  subst hg
  by_cases hl : l = []
  ·subst hl
   refine ⟨.sl c m 0 0 1, st, _, ev_sumPutZ1 (V0 := id) (F := compZ) (V := compZV) rfl hM.fresh c m, ?_, hM⟩
   rw [h00]
   exact .own (l := []) (rest := []) hc (by simp)
  ·have hrow : Row1 st.h.get c m (zC l).flatten := hM.rowMid (A := [(c, m, (zC l).flatten)]) (by simp)
   have hs : intsOf (zC l).flatten = some l := by rw [zC_flat]; exact intsOf_map l
   obtain ⟨v, st', h1, rfl, h3, h4⟩ := ev_sumPutZ (F := compZ) (V := compZV) (V0 := id) (G := envP) (P := Tryz.prog) (f := 67) rfl hM.fresh hrow hs hl hb1 (compZ_len l)
   refine ⟨compZV c m l, st', [(c, m, (compZ l).map zAV)], ?_, ?_, Mem.chgMid (L := L) (B := B) hM h4 h3⟩
   ·rw [zC_len]; exact h1
   ·rw [compZ, List.map_append]
    exact .own hc (Nat.le_trans (compactI_le l) hb)
theorem keyZ_ev (hM : Mem h0 n0 X st (L ++ (A ++ B))) {n1 : Nat} (hA : ZAcc n1 A ks l) (hi : In64 l) (hb1 : l.length ≤ 1000000) :
  ∃ v st', Ev Tryz.prog envP 87 [ks] st v st' ∧ v = .str (keyN l) ∧ Qt st st' := by
 have hq : Qt st st := ⟨hM.fresh, Nat.le_refl _, fun _ _ => rfl⟩
 cases hA with
 | none => exact ⟨.str [], st, ⟨0, 1, rfl⟩, rfl, hq⟩
 | own hc hb =>
  rename_i c m rest
  obtain ⟨vs, ms, h1, h2⟩ := hM.rowMid (A := [(c, m, l.map zAV ++ rest)]) (c := c) (m := m) (x := l.map zAV ++ rest) (by simp)
  have hall : l.all inR = true := List.all_eq_true.2 fun z hz => inR_eq.2 (hi z hz)
  refine ⟨.str (keyN l), st, ⟨0, 1, ?_⟩, rfl, hq⟩
  show sumKey [.sl c m 0 l.length 1] st = _
  unfold sumKey
  simp only [h1, h2]
  have ht : (l.map zAV ++ rest).take l.length = l.map zAV := by
   rw [List.take_append_of_le_length (by simp), List.take_of_length_le (by simp)]
  rw [ht, intsOf_map]
  simp only []
  rw [if_pos ⟨trivial, hb1, hall⟩, keyF_eq hall]
end
end Go.Proofs.YtiknomepbklibaaGreatDoor
end
