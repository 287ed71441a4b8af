/-
  Programs that a call is handed.
-/
import Derived.Test.YtmjnbdkjekdkgaaDoorRdN
import Derived.Test.YtmjnbdkjekdkgaaDoorHand
import Derived.Test.YtmjnbdkjekdkgaaDoorData
namespace Go.Proofs.YtmjnbdkjekdkgaaDoor
open Go Go.RowKit
set_option linter.unusedVariables false
set_option maxRecDepth 100000

theorem rd_slice {K H : Type} {P : Program} {h : Hp} {t e : TypeId} {R : K → List AV → Prop} (k0 : K) (hu : P.underlying t = some (.slice e)) {z : Nat} (hz : P.cellsOf e = z) (hR : ∀ (cs : List AV) (d : DataW H), Rd P h e cs d → ∃ k, R k cs) {xs : List AV} {d : DataW H} (r : Rd P h t xs d) :
    ∃ ks l, xs = [ks] ∧ slLen ks = some (List.length l) ∧ (l.length : Int) ≤ 9223372036854775807 ∧ isCell ks = true ∧ ∀ (i : Nat) (k : K), l[i]? = some k → ∃ c m off cells, ks = .sl c m off l.length z ∧ RowV h c m cells ∧ R k ((cells.drop (off + i * z)).take z) := by
  cases r with
  | bool ht => rw [hu] at ht; cases ht
  | int ht hw => rw [hu] at ht; cases ht
  | str ht hs => rw [hu] at ht; cases ht
  | nil ht => exact ⟨_, [], rfl, rfl, by simp, rfl, fun i k hi => by simp at hi⟩
  | none ht => exact ⟨_, [], rfl, rfl, by simp, rfl, fun i k hi => by simp at hi⟩
  | row ht hz' hr hl he hm hd =>
    rename_i e' c m len cells elems rest
    rw [hu] at ht
    injection ht with ht
    injection ht with ht
    subst ht
    subst hz
    have hk : ∀ i, ∃ k, i < len → R k ((cells.drop (i * P.cellsOf e)).take (P.cellsOf e)) := fun i => by
      by_cases hi : i < len
      · obtain ⟨k, hk⟩ := hR _ _ (hd i elems[i] (List.getElem?_eq_getElem (he ▸ hi)))
        exact ⟨k, fun _ => hk⟩
      · exact ⟨k0, fun h => absurd h hi⟩
    obtain ⟨f, hf⟩ := Classical.axiomOfChoice hk
    have hlen : ((List.range len).map f).length = len := by simp
    have hmx : (len : Int) ≤ 9223372036854775807 := by
      have h1 : (maxLen : Int) ≤ 9223372036854775807 := by decide
      omega
    refine ⟨_, (List.range len).map f, rfl, by rw [hlen]; rfl, by rw [hlen]; exact hmx, rfl, fun i k hi => ⟨c, m, 0, cells, by rw [hlen], hr, ?_⟩⟩
    rw [List.getElem?_map] at hi
    have hlt : i < len := by
      by_cases hi' : i < len
      · exact hi'
      · rw [List.getElem?_eq_none (by simp; omega)] at hi; cases hi
    rw [List.getElem?_range hlt] at hi
    injection hi with hi
    rw [← hi, Nat.zero_add]
    exact hf i hlt
  | agg ht hl hp hd => rw [hu] at ht; cases ht
theorem rd_agg {H : Type} {P : Program} {h : Hp} {t : TypeId} {fs : Array Field} (hu : P.underlying t = some (.struct fs)) {xs : List AV} {d : DataW H} (r : Rd P h t xs d) :
    xs.length = P.cellsOf t ∧ ∀ (i : Nat) (f : Field), fs[i]? = some f → ∃ d : DataW H, Rd P h f.type ((xs.drop f.offset).take (P.cellsOf f.type)) d := by
  cases r with
  | bool ht => rw [hu] at ht; cases ht
  | int ht hw => rw [hu] at ht; cases ht
  | str ht hs => rw [hu] at ht; cases ht
  | nil ht => rw [hu] at ht; cases ht
  | none ht => rw [hu] at ht; cases ht
  | row ht hz' hr hl he hm hd => rw [hu] at ht; cases ht
  | agg ht hl hp hd =>
    rename_i fs' parts
    rw [hu] at ht
    injection ht with ht
    injection ht with ht
    subst ht
    refine ⟨hl, fun i f hf => ?_⟩
    have hi : i < parts.length := by
      rw [hp]
      exact (Array.getElem?_eq_some_iff.1 hf).1
    exact ⟨parts[i], hd i f _ hf (List.getElem?_eq_getElem hi)⟩
theorem cDcl : Tryd.prog.cellsOf 64 = 3 ∧ Tryd.prog.cellsOf 33 = 8 ∧ Tryd.prog.cellsOf 31 = 7 ∧ Tryd.prog.cellsOf 28 = 1 ∧ Tryd.prog.cellsOf 29 = 1 := ⟨by kernel_rfl, by kernel_rfl, by kernel_rfl, by kernel_rfl, by kernel_rfl⟩
theorem uDecl : ∃ f0 f1 f2 : Field, Tryd.prog.underlying 64 = some (.struct #[f0, f1, f2]) ∧ (f0.type = 9 ∧ f0.offset = 0) ∧ (f1.type = 3 ∧ f1.offset = 1) ∧ (f2.type = 3 ∧ f2.offset = 2) :=
  ⟨_, _, _, Tryd.underlying64, ⟨rfl, rfl⟩, ⟨rfl, rfl⟩, ⟨rfl, rfl⟩⟩
theorem uPred : ∃ f0 f1 f2 f3 : Field, Tryd.prog.underlying 33 = some (.struct #[f0, f1, f2, f3]) ∧ (f0.type = 9 ∧ f0.offset = 0) ∧ (f1.type = 28 ∧ f1.offset = 1) ∧ (f2.type = 24 ∧ f2.offset = 2) ∧ (f3.type = 3 ∧ f3.offset = 7) :=
  ⟨_, _, _, _, Tryd.underlying33, ⟨rfl, rfl⟩, ⟨rfl, rfl⟩, ⟨rfl, rfl⟩, ⟨rfl, rfl⟩⟩
theorem uProg : ∃ f0 f1 f2 : Field, Tryd.prog.underlying 31 = some (.struct #[f0, f1, f2]) ∧ (f0.type = 28 ∧ f0.offset = 0) ∧ (f1.type = 29 ∧ f1.offset = 1) ∧ (f2.type = 24 ∧ f2.offset = 2) :=
  ⟨_, _, _, Tryd.underlying31, ⟨rfl, rfl⟩, ⟨rfl, rfl⟩, ⟨rfl, rfl⟩⟩
theorem rd_decl {H : Type} {h : Hp} {xs : List AV} {d : DataW H} (r : Rd Tryd.prog h 64 xs d) : ∃ k : Dc, xs = k.cells := by
  obtain ⟨f0, f1, f2, u, ⟨t0, o0⟩, ⟨t1, o1⟩, ⟨t2, o2⟩⟩ := uDecl
  obtain ⟨hl, hd⟩ := rd_agg u r
  rw [cDcl.1] at hl
  obtain ⟨a0, a1, a2, rfl⟩ : ∃ a0 a1 a2, xs = [a0, a1, a2] := by
    match xs, hl with
    | [a0, a1, a2], _ => exact ⟨_, _, _, rfl⟩
  obtain ⟨cs, ci, ck⟩ := c1
  obtain ⟨d0, r0⟩ := hd 0 f0 rfl
  obtain ⟨d1, r1⟩ := hd 1 f1 rfl
  obtain ⟨d2, r2⟩ := hd 2 f2 rfl
  rw [t0, o0, cs] at r0
  rw [t1, o1, ci] at r1
  rw [t2, o2, ci] at r2
  obtain ⟨s0, e0, b0⟩ := rd_str r0
  obtain ⟨s1, e1⟩ := rd_int r1
  obtain ⟨s2, e2⟩ := rd_int r2
  injection e0 with e0; injection e1 with e1; injection e2 with e2
  subst e0 e1 e2
  exact ⟨⟨s0, s1, s2⟩, rfl⟩
theorem rd_decls {H : Type} {h : Hp} {xs : List AV} {d : DataW H} (r : Rd Tryd.prog h 28 xs d) : ∃ ks l, xs = [ks] ∧ RdDs h l ks := by
  obtain ⟨ks, l, e, h1, h2, h3, h4⟩ := rd_slice (R := fun (k : Dc) cs => cs = k.cells) ⟨[], 0, 0⟩ uDcs cDcl.1 (fun cs d r => rd_decl r) r
  refine ⟨ks, l, e, h1, h2, h3, fun i d hi => ?_⟩
  obtain ⟨c, m, off, cells, e1, e2, e3⟩ := h4 i d hi
  have hd := List.take_append_drop 3 (cells.drop (off + i * 3))
  rw [e3] at hd
  refine ⟨c, m, off, cells, e1, e2, ?_, ?_, ?_⟩
  · rw [nth_eq, ← Nat.add_zero (off + i * 3), ← List.getElem?_drop, ← hd]; rfl
  · rw [nth_eq, ← List.getElem?_drop, ← hd]; rfl
  · rw [nth_eq, ← List.getElem?_drop, ← hd]; rfl
theorem rd_pred {H : Type} {h : Hp} {xs : List AV} {d : DataW H} (r : Rd Tryd.prog h 33 xs d) : ∃ k : Pd, RdP h k xs := by
  obtain ⟨f0, f1, f2, f3, u, ⟨t0, o0⟩, ⟨t1, o1⟩, ⟨t2, o2⟩, ⟨t3, o3⟩⟩ := uPred
  obtain ⟨hl, hd⟩ := rd_agg u r
  rw [cDcl.2.1] at hl
  obtain ⟨a0, a1, a2, a3, a4, a5, a6, a7, rfl⟩ : ∃ a0 a1 a2 a3 a4 a5 a6 a7, xs = [a0, a1, a2, a3, a4, a5, a6, a7] := by
    match xs, hl with
    | [a0, a1, a2, a3, a4, a5, a6, a7], _ => exact ⟨_, _, _, _, _, _, _, _, rfl⟩
  obtain ⟨cs, ci, ck⟩ := c1
  obtain ⟨d0, r0⟩ := hd 0 f0 rfl
  obtain ⟨d1, r1⟩ := hd 1 f1 rfl
  obtain ⟨d2, r2⟩ := hd 2 f2 rfl
  obtain ⟨d3, r3⟩ := hd 3 f3 rfl
  rw [t0, o0, cs] at r0
  rw [t1, o1, cDcl.2.2.2.1] at r1
  rw [t2, o2, cNode] at r2
  rw [t3, o3, ci] at r3
  obtain ⟨s0, e0, b0⟩ := rd_str r0
  obtain ⟨ks, l, e1, hll⟩ := rd_decls r1
  obtain ⟨⟨op, nm, n, a, kids⟩, hb⟩ := rd_node r2
  obtain ⟨s3, e3⟩ := rd_int r3
  have hb : RdN h (.mk op nm n a kids) [a2, a3, a4, a5, a6] := hb
  have hb0 := hb
  obtain ⟨kk, e2, _⟩ := hb.open_ tkN
  injection e0 with e0; injection e1 with e1; injection e3 with e3
  injection e2 with x2 e2; injection e2 with x3 e2; injection e2 with x4 e2; injection e2 with x5 e2; injection e2 with x6 e2
  subst e0 e1 e3 x2 x3 x4 x5 x6
  exact ⟨⟨s0, l, .mk op nm n a kids, s3⟩, _, _, _, _, _, _, rfl, hll, hb0⟩
theorem rd_preds {H : Type} {h : Hp} {xs : List AV} {d : DataW H} (r : Rd Tryd.prog h 29 xs d) : ∃ ks l, xs = [ks] ∧ RdPs h l ks := by
  obtain ⟨ks, l, e, h1, h2, h3, h4⟩ := rd_slice (R := fun (k : Pd) cs => RdP h k cs) ⟨[], [], .mk [] [] 0 0 [], 0⟩ uPds cDcl.2.1 (fun cs d r => rd_pred r) r
  refine ⟨ks, l, e, h1, h2, h3, fun i d hi => ?_⟩
  obtain ⟨c, m, off, cells, e1, e2, e3⟩ := h4 i d hi
  exact ⟨c, m, off, cells, _, e1, e2, rfl, e3⟩
theorem rd_prog {H : Type} {h : Hp} {xs : List AV} {d : DataW H} (r : Rd Tryd.prog h 31 xs d) : ∃ k : Pg, RdG h k xs := by
  obtain ⟨f0, f1, f2, u, ⟨t0, o0⟩, ⟨t1, o1⟩, ⟨t2, o2⟩⟩ := uProg
  obtain ⟨hl, hd⟩ := rd_agg u r
  rw [cDcl.2.2.1] at hl
  obtain ⟨a0, a1, a2, a3, a4, a5, a6, rfl⟩ : ∃ a0 a1 a2 a3 a4 a5 a6, xs = [a0, a1, a2, a3, a4, a5, a6] := by
    match xs, hl with
    | [a0, a1, a2, a3, a4, a5, a6], _ => exact ⟨_, _, _, _, _, _, _, rfl⟩
  obtain ⟨d0, r0⟩ := hd 0 f0 rfl
  obtain ⟨d1, r1⟩ := hd 1 f1 rfl
  obtain ⟨d2, r2⟩ := hd 2 f2 rfl
  rw [t0, o0, cDcl.2.2.2.1] at r0
  rw [t1, o1, cDcl.2.2.2.2] at r1
  rw [t2, o2, cNode] at r2
  obtain ⟨ks0, l0, e0, hl0⟩ := rd_decls r0
  obtain ⟨ks1, l1, e1, hl1⟩ := rd_preds r1
  obtain ⟨⟨op, nm, n, a, kids⟩, hb⟩ := rd_node r2
  have hb : RdN h (.mk op nm n a kids) [a2, a3, a4, a5, a6] := hb
  have hb0 := hb
  obtain ⟨kk, e2, _⟩ := hb.open_ tkN
  injection e0 with e0; injection e1 with e1
  injection e2 with x2 e2; injection e2 with x3 e2; injection e2 with x4 e2; injection e2 with x5 e2; injection e2 with x6 e2
  subst e0 e1 x2 x3 x4 x5 x6
  exact ⟨⟨l0, l1, .mk op nm n a kids⟩, _, _, _, _, _, _, _, rfl, hl0, hl1, hb0⟩
theorem plain_prog : plainSet Tryd.prog [31, 28, 64, 29, 33, 24, 22, 9, 3] = true := by kernel_rfl
theorem hand_prog {H : Type} {enc : TypeId × Value → H} {W : World} {ml : Mbs} (hM : GoodM W ml) {v : Value} {d : DataW H} {p : List MemPlace} (h : DataW.Trod enc Tryd.prog W 0 (fun _ => true) true 31 v d p) :
    ∃ ml' cs k, ml <+: ml' ∧ GoodM W ml' ∧ RdG (hpM ml') k cs ∧ WF (hpM ml') (.agg cs) ∧ conc (plM ml') (.agg cs) = v := by
  obtain ⟨fuel, h⟩ := h
  obtain ⟨ml', cs, h1, h2, h3, h4, h5, h6⟩ := lift _ plain_prog fuel 31 _ d p ml (by simp) h hM
  obtain ⟨k, hk⟩ := rd_prog h6
  refine ⟨ml', cs, k, h1, h2, hk, h4, ?_⟩
  obtain ⟨e1, e2⟩ := conc_of_cells h3 h5
  by_cases hv : ∃ cs, v = .agg cs
  · exact e1 hv
  · obtain ⟨a, rfl, _⟩ := e2 fun cs e => hv ⟨cs, e⟩
    obtain ⟨_, _, _, _, _, _, _, e, _⟩ := hk
    cases e
end Go.Proofs.YtmjnbdkjekdkgaaDoor
