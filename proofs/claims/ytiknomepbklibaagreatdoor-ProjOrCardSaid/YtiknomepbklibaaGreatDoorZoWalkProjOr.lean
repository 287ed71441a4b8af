/-
  Automata that a call is handed.
-/
import Derived.Test.YtiknomepbklibaaGreatDoorZoAcO
import Derived.Test.YtiknomepbklibaaGreatDoorZoPor
section
namespace Go.Proofs.YtiknomepbklibaaGreatDoor
open Go Go.RowKit
set_option linter.unusedVariables false
set_option maxRecDepth 100000

theorem rd_aggZ {H : Type} {P : Program} {h : Hp} {t : TypeId} {fs : Array Field} (hu : P.underlying t = some (.struct fs)) {xs : List AV} {d : DataW H} (r : Rd P h t xs d) :
  xs.length = P.cellsOf t ∧ ∀ (i : Nat) (f : Field), fs[i]? = some f → ∃ d : DataW H, Rd P h f.type ((xs.drop f.offset).take (P.cellsOf f.type)) d := by
 cases r with
 | bool ht => rw [hu] at ht; cases ht
 | int ht hw => rw [hu] at ht; cases ht
 | str ht hs => rw [hu] at ht; cases ht
 | nil ht => rw [hu] at ht; cases ht
 | none ht => rw [hu] at ht; cases ht
 | row ht hz' hr hl he hm hd => rw [hu] at ht; cases ht
 | agg ht hl hp hd =>
  rename_i fs' parts
  rw [hu] at ht
  injection ht with ht
  injection ht with ht
  subst ht
  refine ⟨hl, fun i f hf => ?_⟩
  have hlt : i < parts.length := by rw [hp]; exact (Array.getElem?_eq_some_iff.1 hf).1
  exact ⟨parts[i], hd i f _ hf (List.getElem?_eq_getElem hlt)⟩
theorem rd_boolZ {H : Type} {h : Hp} {xs : List AV} {d : DataW H} (r : Rd Tryz.prog h 4 xs d) : ∃ b : Bool, xs = [.bool b] := by
 cases r with
 | bool ht => exact ⟨_, rfl⟩
 | int ht hw => rw [un_bool] at ht; cases ht
 | str ht hs => rw [un_bool] at ht; cases ht
 | nil ht => rw [un_bool] at ht; cases ht
 | none ht => rw [un_bool] at ht; cases ht
 | row ht hz' hr hl he hm hd => rw [un_bool] at ht; cases ht
 | agg ht hl hp hd => rw [un_bool] at ht; cases ht
theorem ce_bool1 : Program.cellsOf Tryz.prog 4 = 1 := by kernel_rfl
theorem rd_boolsZ {H : Type} {h : Hp} {xs : List AV} {d : DataW H} (r : Rd Tryz.prog h 22 xs d) : ∃ ks l, xs = [ks] ∧ RdR h [] 1 (bC l) ks := by
 obtain ⟨ks, l, ls, e, H⟩ := rd_rowsZ (R := fun (b : Bool) cs => cs = [.bool b]) false un_S_bool ce_bool1 (fun cs d r => rd_boolZ r) r
 refine ⟨ks, l, e, ?_⟩
 have e2 : ls = bC l := by
  apply List.ext_getElem?
  intro i
  cases hi : l[i]? with
  | none =>
   have h1 := List.getElem?_eq_none_iff.1 hi
   rw [List.getElem?_eq_none (by rw [H.ln]; exact h1), List.getElem?_eq_none (by rw [bC_len]; exact h1)]
  | some z =>
   obtain ⟨cs, h1, h2⟩ := H.at_ i z hi
   rw [h1, bC_get hi, h2]
 exact e2 ▸ H.r
theorem uAuto : ∃ f0 f1 f2 : Field, Tryz.prog.underlying 25 = some (.struct #[f0, f1, f2]) ∧ (f0.type = 3 ∧ f0.offset = 0) ∧ (f1.type = 22 ∧ f1.offset = 1) ∧ (f2.type = 23 ∧ f2.offset = 2) :=
 ⟨_, _, _, Tryz.underlying25, ⟨rfl, rfl⟩, ⟨rfl, rfl⟩, ⟨rfl, rfl⟩⟩
/-- An automaton's cells, whatever it is. -/
structure AutoR (h : Hp) (t : Int) (acc : List Bool) (nx : List (List Int)) (ka kn : AV) : Prop where
  acc : RdR h [] 1 (bC acc) ka
  nx : ∃ ls, LsR h nx kn ls
theorem rd_autoZ {H : Type} {h : Hp} {xs : List AV} {d : DataW H} (r : Rd Tryz.prog h 25 xs d) : ∃ t acc nx ka kn, xs = [.int .i64 t, ka, kn] ∧ AutoR h t acc nx ka kn := by
 obtain ⟨f0, f1, f2, u, ⟨t0, o0⟩, ⟨t1, o1⟩, ⟨t2, o2⟩⟩ := uAuto
 obtain ⟨hl, hd⟩ := rd_aggZ u r
 rw [ce_api_Auto] at hl
 obtain ⟨a0, a1, a2, rfl⟩ : ∃ a0 a1 a2, xs = [a0, a1, a2] := by
  match xs, hl with
  | [a0, a1, a2], _ => exact ⟨_, _, _, rfl⟩
 obtain ⟨d0, r0⟩ := hd 0 f0 rfl
 obtain ⟨d1, r1⟩ := hd 1 f1 rfl
 obtain ⟨d2, r2⟩ := hd 2 f2 rfl
 rw [t0, o0, ce_int1] at r0
 rw [t1, o1, ce_S_bool] at r1
 rw [t2, o2, ce_S_S_int] at r2
 obtain ⟨z, e0, _⟩ := rd_intZ r0
 obtain ⟨ka, acc, e1, h1⟩ := rd_boolsZ r1
 obtain ⟨kn, nx, ls, e2, h2⟩ := rd_listsZ r2
 injection e0 with e0
 injection e1 with e1
 injection e2 with e2
 subst e0 e1 e2
 exact ⟨z, acc, nx, _, _, rfl, h1, ls, h2⟩
theorem LsR.monoZ {h h' : Hp} {LL : List (List Int)} {kL : AV} {lL : List (List AV)} (hl : RowLe h h') (r : LsR h LL kL lL) : LsR h' LL kL lL :=
 ⟨r.r.monoZ hl, r.ln, fun i k hi => by
  obtain ⟨cs, h1, v, h2, h3, h4⟩ := r.at_ i k hi
  exact ⟨cs, h1, v, h2, h3.monoZ hl, h4⟩⟩
theorem AutoR.mono {h h' : Hp} (hl : RowLe h h') {t : Int} {acc : List Bool} {nx : List (List Int)} {ka kn : AV} (r : AutoR h t acc nx ka kn) : AutoR h' t acc nx ka kn := by
 obtain ⟨h1, ls, h2⟩ := r
 exact ⟨h1.monoZ hl, ls, h2.monoZ hl⟩
theorem plain_auto : plainSet Tryz.prog [25, 22, 4, 23, 54, 3] = true := by kernel_rfl
theorem hand_auto {H : Type} {enc : TypeId × Value → H} {W : World} {ml : Mbs} (hM : GoodM W ml) {v : Value} {d : DataW H} {p : List MemPlace} (h : DataW.Trod enc Tryz.prog W 0 (fun _ => true) true 25 v d p) :
  ∃ ml' t acc nx ka kn, ml <+: ml' ∧ GoodM W ml' ∧ AutoR (hpM ml') t acc nx ka kn ∧ WF (hpM ml') (.agg [.int .i64 t, ka, kn]) ∧ conc (plM ml') (.agg [.int .i64 t, ka, kn]) = v := by
 obtain ⟨fuel, h⟩ := h
 obtain ⟨ml', cs, h1, h2, h3, h4, h5, h6⟩ := lift _ plain_auto fuel 25 _ d p ml (by simp) h hM
 obtain ⟨t, acc, nx, ka, kn, rfl, hk⟩ := rd_autoZ h6
 refine ⟨ml', t, acc, nx, ka, kn, h1, h2, hk, h4, ?_⟩
 obtain ⟨e1, e2⟩ := conc_of_cells h3 h5
 by_cases hv : ∃ cs, v = .agg cs
 ·exact e1 hv
 ·obtain ⟨a, e, _⟩ := e2 fun cs e => hv ⟨cs, e⟩
  cases e
end Go.Proofs.YtiknomepbklibaaGreatDoor
end
section
namespace Go.Proofs.YtiknomepbklibaaGreatDoor
open Go Go.RowKit
set_option linter.unusedVariables false

theorem walk_projOr {H : Type} {enc : TypeId × Value → H} {W : World} {v0 v1 : Value} {d0 d1 : DataW H} {p0 p1 : List MemPlace} (h0 : DataW.Trod enc Tryz.prog W 0 (fun _ => true) true 25 v0 d0 p0) (h1 : DataW.Trod enc Tryz.prog W 0 (fun _ => true) true 25 v1 d1 p1) (k : Int) (hk : -9223372036854775808 ≤ k ∧ k ≤ 9223372036854775807) (hT : TabsP W) :
  Calls Tryz.prog 3 #[v0, v1, .int .i64 k] W fun e w' => e = .returned (.bool true) ∧ Below W.heap.size W w' := by
 obtain ⟨ml1, t, acc, nx, ka, kn, _, hM1, hA, hwa, hca⟩ := hand_auto GoodM.nil h0
 obtain ⟨ml2, t2, acc2, nx2, kb, km, p12, hM2, hB, hwb, hcb⟩ := hand_auto hM1 h1
 obtain ⟨hA1, ls, hA2⟩ := hA.mono (rowM_le p12)
 obtain ⟨hB1, ls2, hB2⟩ := hB
 have := open_true (G := envP) (fun _ => rfl) envP_ok mixed (f := 3) (args := [.agg [.int .i64 t, ka, kn], .agg [.int .i64 t2, kb, km], .int .i64 k]) hM2 ⟨WF.grow (hpM_grow p12) _ hwa, hwb, trivial, trivial⟩
  (projOr_ev (stM_fresh ml2) (by rw [stM_get]; exact hA1) (by rw [stM_get]; exact hA2) (by rw [stM_get]; exact hB1) (by rw [stM_get]; exact hB2)) hT
 rw [show concL (plM ml2) [.agg [.int .i64 t, ka, kn], .agg [.int .i64 t2, kb, km], .int .i64 k] = [v0, v1, .int .i64 k] by rw [← hca, ← hcb, ← concM p12 hwa]; rfl] at this
 exact this
end Go.Proofs.YtiknomepbklibaaGreatDoor
end
