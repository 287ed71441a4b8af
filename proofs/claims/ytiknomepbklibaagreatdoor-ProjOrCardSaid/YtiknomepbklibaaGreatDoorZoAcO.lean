/-
  Rows of rows of numbers that a call is handed.
-/
import Derived.Test.YtiknomepbklibaaGreatDoorZoPoolW
import Derived.Test.YtiknomepbklibaaGreatDoorZoPlq
import Derived.Test.YtiknomepbklibaaGreatDoorProg
import Derived.Test.YtiknomepbklibaaGreatDoorZoTyg
import Derived.Test.YtiknomepbklibaaGreatDoorZoBdB
import Derived.Test.YtiknomepbklibaaGreatDoorZoCl
section
namespace Go.Proofs.YtiknomepbklibaaGreatDoor
open Go Go.RowKit
set_option linter.unusedVariables false
set_option maxRecDepth 100000

theorem RdR.monoZ {h h' : Hp} {z : Nat} {ls : List (List AV)} {kk : AV} (hl : RowLe h h') (r : RdR h [] z ls kk) : RdR h' [] z ls kk :=
 ⟨r.len, r.bnd, r.cell, fun i cs hi => by
  obtain ⟨c, m, off, cells, h1, h2, h3, h4⟩ := r.at_ i cs hi
  exact ⟨c, m, off, cells, h1, h2, hl _ _ _ h3, h4⟩, fun c m off n z' e => by
  obtain ⟨h1, cells, h2, h3⟩ := r.alive c m off n z' e
  exact ⟨h1, cells, hl _ _ _ h2, h3⟩⟩
theorem rd_listsZ {H : Type} {h : Hp} {xs : List AV} {d : DataW H} (r : Rd Tryz.prog h 23 xs d) : ∃ ks l ls, xs = [ks] ∧ LsR h l ks ls := by
 obtain ⟨ks, l, ls, e, H⟩ := rd_rowsZ (R := ListR h) [] un_S_S_int ce_S_int (fun cs d r => by
  obtain ⟨k, l, e, h1, h2⟩ := rd_intsZ r
  exact ⟨l, k, e, h1, h2⟩) r
 exact ⟨ks, l, ls, e, H⟩
end Go.Proofs.YtiknomepbklibaaGreatDoor
end
section
namespace Go.Proofs.YtiknomepbklibaaGreatDoor
open Go
set_option maxRecDepth 100000

theorem tk_func_int__bool : tk Tryz.prog 52 = .one := by kernel_rfl
theorem sz_func_int__bool : sizeA Tryz.prog 52 = some 1 := by kernel_rfl
theorem ze_func_int__bool : zeroOf Tryz.prog 52 = some [.nilf] := by kernel_rfl
end Go.Proofs.YtiknomepbklibaaGreatDoor
end
section
namespace Go.Proofs.YtiknomepbklibaaGreatDoor
open Go Go.RowKit
set_option linter.unusedVariables false
set_option maxRecDepth 100000

/-- Truths' cells. -/
def bC (l : List Bool) : List (List AV) := l.map fun b => [AV.bool b]
theorem bC_len (l : List Bool) : (bC l).length = l.length := by simp [bC]
theorem bC_get {l : List Bool} {i : Nat} {b : Bool} (h : l[i]? = some b) : (bC l)[i]? = some [AV.bool b] := by rw [bC, List.getElem?_map, h]; rfl
theorem bC_app (a b : List Bool) : bC (a ++ b) = bC a ++ bC b := by simp [bC]
theorem bC_one (l : List Bool) : ∀ cs ∈ bC l, cs.length = 1 := by
 intro cs h
 obtain ⟨s, _, rfl⟩ := List.mem_map.1 h
 rfl
/-- Where a row lies. -/
def InF (F : Fp) (v : AV) : Prop := ∀ c m o n y, v = .sl c m o n y → F c
theorem Acc.inF {n0 z : Nat} {A : Rows2} {kr : AV} {ls : List (List AV)} (hA : Acc n0 z A kr ls) : InF (rowsO A).F kr := fun c m o n y e => by
 cases hA with
 | none => cases e
 | own h1 h2 h3 => injection e with e1 e2; subst e1; exact ⟨_, _, List.mem_cons_self ..⟩
theorem AccX.inF {A : Rows2} {kr : AV} {vs : List AV} (hA : AccX A kr vs) : InF (rowsO A).F kr := fun c m o n y e => by
 cases hA with
 | none => cases e
 | own h3 => injection e with e1 e2; subst e1; exact ⟨_, _, List.mem_cons_self ..⟩
/-- Rows of numbers, their slices. -/
structure VsAt (h : Hp) (F : Fp) (vs : List AV) (LL : List (List Int)) : Prop where
  ln : vs.length = LL.length
  at_ : ∀ (i : Nat) (s : List Int), LL[i]? = some s → ∃ v, vs[i]? = some v ∧ RdR h [] 1 (zC s) v ∧ In64 s ∧ InF F v
theorem VsAt.frame {h h' : Hp} {F : Fp} {vs : List AV} {LL : List (List Int)} (e : ∀ c, F c → h' c = h c) (H : VsAt h F vs LL) : VsAt h' F vs LL :=
 ⟨H.ln, fun i s hi => by
  obtain ⟨v, h1, h2, h3, h4⟩ := H.at_ i s hi
  exact ⟨v, h1, h2.frame fun c m o n y e' => e c (h4 c m o n y e'), h3, h4⟩⟩
def vsO (F : Fp) (vs : List AV) (LL : List (List Int)) : Ob := ⟨F, fun h => VsAt h F vs LL, fun _ _ e H => H.frame e⟩
/-- A row of them. -/
structure LsAt (h : Hp) (F : Fp) (kn : AV) (vs : List AV) (LL : List (List Int)) : Prop where
  rd : RdR h [] 1 (vs.map fun v => [v]) kn
  vs : VsAt h F vs LL
  out : InF F kn
theorem LsAt.frame {h h' : Hp} {F : Fp} {kn : AV} {vs : List AV} {LL : List (List Int)} (e : ∀ c, F c → h' c = h c) (H : LsAt h F kn vs LL) : LsAt h' F kn vs LL :=
 ⟨H.rd.frame fun c m o n y e' => e c (H.out c m o n y e'), H.vs.frame e, H.out⟩
def lsO (F : Fp) (kn : AV) (vs : List AV) (LL : List (List Int)) : Ob := ⟨F, fun h => LsAt h F kn vs LL, fun _ _ e H => H.frame e⟩
theorem LsAt.r {h : Hp} {F : Fp} {kn : AV} {vs : List AV} {LL : List (List Int)} (H : LsAt h F kn vs LL) : LsR h LL kn (vs.map fun v => [v]) := by
 refine ⟨H.rd, by rw [List.length_map]; exact H.vs.ln, fun i s hi => ?_⟩
 obtain ⟨v, k1, k2, k3, _⟩ := H.vs.at_ i s hi
 exact ⟨[v], by rw [List.getElem?_map, k1]; rfl, v, rfl, k2, k3⟩
theorem LsAt.len {h : Hp} {F : Fp} {kn : AV} {vs : List AV} {LL : List (List Int)} (H : LsAt h F kn vs LL) : slLen kn = some LL.length := H.r.len
section
variable {st0 st : St} {X0 : Fp} {L A B M : Rows2} {Os : List Ob} {F : Fp} {vs : List AV} {LL : List (List Int)} {kr kn : AV} {row : List Int}
theorem MemO.mid {A B : Rows2} (H : MemO st0 X0 st (L ++ (A ++ B)) Os) : MemO st0 X0 st (A ++ (L ++ B)) Os := H.perm (by rw [← List.append_assoc, ← List.append_assoc]; exact List.perm_append_comm.append_right B)
theorem MemO.noRows (B : MemO st0 X0 st M Os) : MemO st0 X0 st M (vsO noX [] [] :: Os) :=
 B.new ⟨B.fresh, Nat.le_refl _, fun _ _ => rfl⟩ ⟨rfl, fun i s hi => by simp at hi⟩ fun c hc => hc.elim
/-- A row more. -/
theorem MemO.addRow (H : MemO st0 X0 st (L ++ (A ++ B)) (vsO F vs LL :: Os)) {n0 : Nat} (hA : Acc n0 1 A kr (zC row)) (hz : In64 row) : ∃ F', MemO st0 X0 st (L ++ B) (vsO F' (vs ++ [kr]) (LL ++ [row]) :: Os) := by
  have hr : RdR st.h.get [] 1 (zC row) kr := Mem.accR H.mem hA
  have hin := hA.inF
  have B1 := H.mid.freeze (o := ⟨(rowsO A).F, fun h => RdR h [] 1 (zC row) kr, fun h h' e r => r.frame fun c m o n y e' => e c (hin c m o n y e')⟩) hr (fun c hc => hc)
  refine ⟨fun c => (rowsO A).F c ∨ F c, B1.join (fun h1 h2 => ⟨by rw [List.length_append, List.length_append, h2.ln]; rfl, fun i s hi => ?_⟩) fun c hc => hc⟩
  by_cases hl : i < LL.length
  · rw [List.getElem?_append_left hl] at hi
    obtain ⟨v, k1, k2, k3, k4⟩ := h2.at_ i s hi
    exact ⟨v, by rw [List.getElem?_append_left (by rw [h2.ln]; exact hl)]; exact k1, k2, k3, fun c m o n y e => .inr (k4 c m o n y e)⟩
  · have hlt := (List.getElem?_eq_some_iff.1 hi).1
    rw [List.length_append, List.length_singleton] at hlt
    have hl : i = LL.length := by omega
    subst hl
    rw [List.getElem?_append_right (Nat.le_refl _), Nat.sub_self] at hi
    injection hi with hi
    subst hi
    exact ⟨kr, by rw [List.getElem?_append_right (by rw [h2.ln]; exact Nat.le_refl _), h2.ln, Nat.sub_self]; rfl, h1, hz, fun c m o n y e => .inl (hin c m o n y e)⟩
/-- Their row. -/
theorem MemO.toLs (H : MemO st0 X0 st (L ++ (A ++ B)) (vsO F vs LL :: Os)) (hA : AccX A kn vs) : ∃ F', MemO st0 X0 st (L ++ B) (lsO F' kn vs LL :: Os) := by
  have hr : RdR st.h.get [] 1 (vs.map fun v => [v]) kn := hA.rd fun c m l hm => H.row c m l (by simp [hm])
  have hin := hA.inF
  have B1 := H.mid.freeze (o := ⟨(rowsO A).F, fun h => RdR h [] 1 (vs.map fun v => [v]) kn, fun h h' e r => r.frame fun c m o n y e' => e c (hin c m o n y e')⟩) hr (fun c hc => hc)
  refine ⟨fun c => (rowsO A).F c ∨ F c, B1.join (fun h1 h2 => ⟨h1, ⟨h2.ln, fun i s hi => ?_⟩, fun c m o n y e => .inl (hin c m o n y e)⟩) fun c hc => hc⟩
  obtain ⟨v, k1, k2, k3, k4⟩ := h2.at_ i s hi
  exact ⟨v, k1, k2, k3, fun c m o n y e => .inr (k4 c m o n y e)⟩
end
/-- An automaton. -/
def DfaAt (h : Hp) (F : Fp) (dp : Nat) (a : Au) : Prop :=
  ∃ (ka kr : AV) (sp : Nat) (F1 : Fp) (S : Sto) (roots : List Nat), Row1 h dp 0 [ka, kr, .ptr sp 0 0] ∧ F dp ∧ RdR h [] 1 (bC a.acc) ka ∧ InF F ka ∧ RdR h [] 1 (zC (roots.map fun r => ((r : Nat) : Int))) kr ∧ InF F kr ∧ StoAt h F1 sp a.tr S ∧ (∀ c, F1 c → F c) ∧ WFS a.tr S ∧ WFA a ∧ roots.length = a.n ∧
    ∀ (s r : Nat), roots[s]? = some r → r < S.length ∧ a.nx[s]? = some (rowB a.tr S r)
theorem DfaAt.frame {h h' : Hp} {F : Fp} {dp : Nat} {a : Au} (e : ∀ c, F c → h' c = h c) (H : DfaAt h F dp a) : DfaAt h' F dp a := by
 obtain ⟨ka, kr, sp, F1, S, roots, h1, h2, h3, h4, h5, h6, h7, h8, h9⟩ := H
 exact ⟨ka, kr, sp, F1, S, roots, h1.frame (e dp h2), h2, h3.frame fun c m o n y e' => e c (h4 c m o n y e'), h4, h5.frame fun c m o n y e' => e c (h6 c m o n y e'), h6, h7.frame fun c hc => e c (h8 c hc), h8, h9⟩
def dfaO (F : Fp) (dp : Nat) (a : Au) : Ob := ⟨F, fun h => DfaAt h F dp a, fun _ _ e H => H.frame e⟩
structure DfaI (st : St) (F : Fp) (dp : Nat) (a : Au) : Prop where
 at_ : DfaAt st.h.get F dp a
 hi : ∀ c, F c → c < st.n
theorem DfaI.q {st st' : St} {F : Fp} {dp : Nat} {a : Au} (hD : DfaI st F dp a) (q : Qt st st') : DfaI st' F dp a := ⟨hD.at_.frame fun c hc => q.old c (hD.hi c hc), fun c hc => Nat.lt_of_lt_of_le (hD.hi c hc) q.le⟩
theorem DfaI.wf {st : St} {F : Fp} {dp : Nat} {a : Au} (hD : DfaI st F dp a) : WFA a := by
 obtain ⟨_, _, _, _, _, _, _, _, _, _, _, _, _, _, _, h, _⟩ := hD.at_
 exact h
theorem MemO.dfa {st0 st : St} {X0 F : Fp} {M : Rows2} {Os : List Ob} {dp : Nat} {a : Au} (B : MemO st0 X0 st M Os) {k : Nat} (hk : Os[k]? = some (dfaO F dp a)) : DfaI st F dp a := ⟨B.at_ hk, B.hi_ hk⟩
/-- Its rows, as a row of rows. -/
theorem WFA.in64 {a : Au} (W : WFA a) : ∀ r ∈ a.nx, In64 r := fun r hr z hz => by
  obtain ⟨_, h⟩ := W.row r hr
  have := h z hz
  have := W.most
  omega
end Go.Proofs.YtiknomepbklibaaGreatDoor
end
section
namespace Go.Proofs.YtiknomepbklibaaGreatDoor
open Go Go.RowKit
set_option linter.unusedVariables false

/-- A row that grows: it may be handed over, and goes on elsewhere. -/
def AccAt (h : Hp) (F : Fp) (z : Nat) (ks : AV) (ls : List (List AV)) : Prop := ∃ A, Acc 0 z A ks ls ∧ (∀ c m l, (c, m, l) ∈ A → Row1 h c m l ∧ F c)
def accO (F : Fp) (z : Nat) (ks : AV) (ls : List (List AV)) : Ob := ⟨F, fun h => AccAt h F z ks ls, fun h h' e H => by
 obtain ⟨A, h1, h2⟩ := H
 exact ⟨A, h1, fun c m l hm => ⟨(h2 c m l hm).1.frame (e c (h2 c m l hm).2), (h2 c m l hm).2⟩⟩⟩
theorem acc_nodup {n0 z : Nat} {A : Rows2} {ks : AV} {ls : List (List AV)} (hA : Acc n0 z A ks ls) : (A.map Prod.fst).Nodup := by cases hA <;> simp
section
variable {st0 st : St} {X0 F : Fp} {M A : Rows2} {Os : List Ob} {z : Nat} {ks : AV} {ls : List (List AV)}
theorem AccAt.rd {h : Hp} (H : AccAt h F z ks ls) : RdR h [] z ls ks := by
 obtain ⟨A, h1, h2⟩ := H
 cases h1 with
 | none => exact .nil _ _ _
 | own k1 k2 k3 => exact RdR.own (h2 _ _ _ (List.mem_cons_self ..)).1 k2 (by simp) (by omega)
theorem AccAt.len {h : Hp} (H : AccAt h F z ks ls) : slLen ks = some ls.length := by obtain ⟨A, h1, _⟩ := H; exact h1.len
theorem MemO.openAcc (B : MemO st0 X0 st M (accO F z ks ls :: Os)) : ∃ A, Acc 0 z A ks ls ∧ MemO st0 X0 st (A ++ M) Os := by
 obtain ⟨A, h1, h2⟩ := B.obj _ (List.mem_cons_self ..)
 have B1 := B.thaw (R := A) (o' := ⟨noX, fun _ => True, fun _ _ _ h => h⟩) h2 (acc_nodup h1) trivial (fun c hc => hc.elim) (fun c m l _ hc => hc)
 exact ⟨A, h1, B1.lessO (.cons _ (.refl _))⟩
theorem MemO.closeAcc (B : MemO st0 X0 st (A ++ M) Os) (hA : Acc 0 z A ks ls) : ∃ F', MemO st0 X0 st M (accO F' z ks ls :: Os) :=
 ⟨(rowsO A).F, B.freeze (o := accO (rowsO A).F z ks ls) ⟨A, hA, fun c m l hm => ⟨B.row c m l (by simp [hm]), m, l, hm⟩⟩ fun c hc => hc⟩
end
end Go.Proofs.YtiknomepbklibaaGreatDoor
end
