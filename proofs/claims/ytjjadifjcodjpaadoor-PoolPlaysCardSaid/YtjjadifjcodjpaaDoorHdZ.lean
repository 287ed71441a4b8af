/-
  Rows of rows of numbers that a call is handed.
-/
import Derived.Test.YtjjadifjcodjpaaDoorRdZ
import Derived.Test.YtjjadifjcodjpaaDoorPlq
namespace Go.Proofs.YtjjadifjcodjpaaDoor
open Go Go.RowKit
set_option linter.unusedVariables false
set_option maxRecDepth 100000

theorem RdR.monoZ {h h' : Hp} {z : Nat} {ls : List (List AV)} {kk : AV} (hl : RowLe h h') (r : RdR h [] z ls kk) : RdR h' [] z ls kk :=
  ⟨r.len, r.bnd, r.cell, fun i cs hi => by
    obtain ⟨c, m, off, cells, h1, h2, h3, h4⟩ := r.at_ i cs hi
    exact ⟨c, m, off, cells, h1, h2, hl _ _ _ h3, h4⟩, fun c m off n z' e => by
    obtain ⟨h1, cells, h2, h3⟩ := r.alive c m off n z' e
    exact ⟨h1, cells, hl _ _ _ h2, h3⟩⟩
theorem rd_listsZ {H : Type} {h : Hp} {xs : List AV} {d : DataW H} (r : Rd Tryd.prog h 23 xs d) : ∃ ks l ls, xs = [ks] ∧ LsR h l ks ls := by
  obtain ⟨ks, l, ls, e, H⟩ := rd_rowsZ (R := ListR h) [] un_S_S_int ce_S_int (fun cs d r => by
    obtain ⟨k, l, e, h1, h2⟩ := rd_intsZ r
    exact ⟨l, k, e, h1, h2⟩) r
  exact ⟨ks, l, ls, e, H⟩
theorem plain_lists : plainSet Tryd.prog [23, 22, 3] = true := by kernel_rfl
theorem hand_listsZ {H : Type} {enc : TypeId × Value → H} {W : World} {ml : Mbs} (hM : GoodM W ml) {v : Value} {d : DataW H} {p : List MemPlace} (h : DataW.Trod enc Tryd.prog W 0 (fun _ => true) true 23 v d p) (hna : ∀ cs, v ≠ .agg cs) :
    ∃ ml' ks l ls, ml <+: ml' ∧ GoodM W ml' ∧ LsR (hpM ml') l ks ls ∧ WF (hpM ml') ks ∧ conc (plM ml') ks = v := by
  obtain ⟨fuel, h⟩ := h
  obtain ⟨ml', cs, h1, h2, h3, h4, h5, h6⟩ := lift _ plain_lists fuel 23 _ d p ml (by simp) h hM
  obtain ⟨ks, l, ls, rfl, hr⟩ := rd_listsZ h6
  refine ⟨ml', ks, l, ls, h1, h2, hr, ?_, ?_⟩
  · first | exact h4.1 | exact h4 | simpa [WF, WFL] using h4
  · obtain ⟨e1, e2⟩ := conc_of_cells h3 h5
    obtain ⟨a, e, h⟩ := e2 hna
    injection e with e
    rw [e]; exact h
theorem walk_poolSame {H : Type} {enc : TypeId × Value → H} {W : World} {v0 v1 v2 : Value} {d0 d1 d2 : DataW H} {p0 p1 p2 : List MemPlace} (h0 : DataW.Trod enc Tryd.prog W 0 (fun _ => true) true 22 v0 d0 p0) (n0 : ∀ cs, v0 ≠ .agg cs) (h1 : DataW.Trod enc Tryd.prog W 0 (fun _ => true) true 22 v1 d1 p1) (n1 : ∀ cs, v1 ≠ .agg cs) (h2 : DataW.Trod enc Tryd.prog W 0 (fun _ => true) true 23 v2 d2 p2) (n2 : ∀ cs, v2 ≠ .agg cs) (hT : TabsP W) :
    Calls Tryd.prog 3 #[v0, v1, v2] W fun e w' => e = .returned (.bool true) ∧ Below W.heap.size W w' := by
  obtain ⟨ml1, ka, a, _, hM1, ha, hza, hwa, hca⟩ := hand_intsZ GoodM.nil h0 n0
  obtain ⟨ml2, kb, b, p12, hM2, hb, hzb, hwb, hcb⟩ := hand_intsZ hM1 h1 n1
  obtain ⟨ml3, kl, l, ls, p23, hM3, hl, hwl, hcl⟩ := hand_listsZ hM2 h2 n2
  have p13 := p12.trans p23
  have := open_true (G := envP) (fun _ => rfl) envP_ok mixed (f := 3) (args := [ka, kb, kl]) hM3 ⟨WF.grow (hpM_grow p13) _ hwa, WF.grow (hpM_grow p23) _ hwb, hwl, trivial⟩
    (poolSame_ev (stM_fresh ml3) (by rw [stM_get]; exact ha.monoZ (rowM_le p13)) hza (by rw [stM_get]; exact hb.monoZ (rowM_le p23)) hzb (LL := l) (lL := ls) (by rw [stM_get]; exact hl)) hT
  rw [show concL (plM ml3) [ka, kb, kl] = [v0, v1, v2] by rw [← hca, ← hcb, ← hcl, ← concM p13 hwa, ← concM p23 hwb]; rfl] at this
  exact this
end Go.Proofs.YtjjadifjcodjpaaDoor
