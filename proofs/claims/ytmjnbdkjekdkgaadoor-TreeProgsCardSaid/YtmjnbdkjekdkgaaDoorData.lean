/-
  Declarations, predicates and programs in the reckoner's memory.
-/
import Derived.Test.YtmjnbdkjekdkgaaDoorNode
import Derived.Test.YtmjnbdkjekdkgaaDoorSy1
namespace Go.Proofs.YtmjnbdkjekdkgaaDoor
open Go Go.RowKit
set_option linter.unusedVariables false
set_option maxRecDepth 100000

/-- A declaration. -/
structure Dc where
  name : List Nat
  order : Int
  at_ : Int
def Dc.cells (d : Dc) : List AV := [.str d.name, .int .i64 d.order, .int .i64 d.at_]
def sameD (a b : Dc) : Bool := decide (a.name = b.name) && decide (a.order = b.order)
def sameDs : List Dc → List Dc → Bool
  | [], [] => true
  | a :: l, b :: r => sameD a b && sameDs l r
  | _, _ => false
/-- A row of them. -/
structure RdDs (h : Hp) (l : List Dc) (ks : AV) : Prop where
  len : slLen ks = some l.length
  bnd : (l.length : Int) ≤ 9223372036854775807
  cell : isCell ks = true
  at_ : ∀ (i : Nat) (d : Dc), l[i]? = some d → ∃ c m off cells, ks = .sl c m off l.length 3 ∧ RowV h c m cells ∧ nth cells (off + i * 3) = some (.str d.name) ∧ nth cells (off + i * 3 + 1) = some (.int .i64 d.order) ∧ nth cells (off + i * 3 + 2) = some (.int .i64 d.at_)
theorem load_row {P : Program} {h : Hp} {c m off : Nat} {cells : List AV} {t : TypeId} {v : AV} (hr : RowV h c m cells) (hp : partA P t cells off = some v) : loadA P t (.ptr c m off) h = some v := by
  obtain ⟨ro, e, vs, ms, h1, h2⟩ := hr
  show ob (rowOf h c m) _ = _
  unfold rowOf
  rw [h1, ob_some]
  show ob (ob (nth ms m) _) _ = _
  rw [nth_eq, h2]
  exact hp
theorem take3 {l : List AV} {o : Nat} {a b c : AV} (h0 : nth l o = some a) (h1 : nth l (o + 1) = some b) (h2 : nth l (o + 2) = some c) : takeK 3 (dropN o l) (fun r => some (AV.agg r)) = some (.agg [a, b, c]) := by
  rw [nth_eq] at h0 h1 h2
  rw [dropN_eq]
  obtain ⟨q0, e0⟩ := List.getElem?_eq_some_iff.1 h0
  obtain ⟨q1, e1⟩ := List.getElem?_eq_some_iff.1 h1
  obtain ⟨q2, e2⟩ := List.getElem?_eq_some_iff.1 h2
  rw [List.drop_eq_getElem_cons q0, List.drop_eq_getElem_cons q1, List.drop_eq_getElem_cons q2, e0, e1, e2]
  rfl
theorem tkDc : tk Tryd.prog 64 = .agg 3 := by kernel_rfl
theorem tkDcs : tk Tryd.prog 28 = .one := by kernel_rfl
theorem fDc0 : fieldOff Tryd.prog 64 0 = some 0 := by kernel_rfl
theorem fDc1 : fieldOff Tryd.prog 64 1 = some 1 := by kernel_rfl
theorem fDc2 : fieldOff Tryd.prog 64 2 = some 2 := by kernel_rfl
theorem uDcs : Tryd.prog.underlying 28 = some (.slice 64) := by kernel_rfl
theorem eDcs : elemOfA Tryd.prog 28 = some 3 := by kernel_rfl
theorem zDc : zeroOf Tryd.prog 64 = some [.str [], .int .i64 0, .int .i64 0] := by kernel_rfl
theorem szDc : sizeA Tryd.prog 64 = some 3 := by kernel_rfl
theorem RdDs.load {h : Hp} {l : List Dc} {ks : AV} (r : RdDs h l ks) {i : Nat} {d : Dc} (hd : l[i]? = some d) : ∃ c m off, ks = .sl c m off l.length 3 ∧ loadA Tryd.prog 64 (.ptr c m (off + i * 3)) h = some (.agg d.cells) ∧
    loadA Tryd.prog 9 (.ptr c m (off + i * 3 + 0)) h = some (.str d.name) ∧ loadA Tryd.prog 3 (.ptr c m (off + i * 3 + 1)) h = some (.int .i64 d.order) := by
  obtain ⟨c, m, off, cells, e, hr, h0, h1, h2⟩ := r.at_ i d hd
  exact ⟨c, m, off, e, load_row hr (part_agg tkDc (take3 h0 h1 h2)), load_row hr (part_one tkStr h0), load_row hr (part_one tkInt h1)⟩
/-- A predicate. -/
structure Pd where
  name : List Nat
  params : List Dc
  body : Nd
  at_ : Int
def sameP (a b : Pd) : Bool := decide (a.name = b.name) && (sameDs a.params b.params && sameN a.body b.body)
theorem RdDs.mono {h h' : Hp} (hr : RowLe h h') {l : List Dc} {ks : AV} (r : RdDs h l ks) : RdDs h' l ks :=
  ⟨r.len, r.bnd, r.cell, fun i d hd => by
    obtain ⟨c, m, off, cells, e, h1, h2⟩ := r.at_ i d hd
    exact ⟨c, m, off, cells, e, hr _ _ _ h1, h2⟩⟩
theorem Mem.rdds {h0 : Hp} {n0 : Nat} {st : St} {M : List (Nat × Nat × List AV)} (hM : Mem h0 n0 [] st M) {l : List Dc} {ks : AV} (r : RdDs h0 l ks) : RdDs st.h.get l ks := r.mono hM.rows
/-- It lies there. -/
def RdP (h : Hp) (p : Pd) (cs : List AV) : Prop := ∃ kp op nm n a kk, cs = [.str p.name, kp, .str op, .str nm, .int .i64 n, .int .i64 a, kk, .int .i64 p.at_] ∧ RdDs h p.params kp ∧ RdN h p.body [.str op, .str nm, .int .i64 n, .int .i64 a, kk]
theorem RdP.mono {h h' : Hp} (hr : RowLe h h') {p : Pd} {cs : List AV} (r : RdP h p cs) : RdP h' p cs := by
  obtain ⟨kp, op, nm, n, a, kk, e, h1, h2⟩ := r
  exact ⟨kp, op, nm, n, a, kk, e, h1.mono hr, h2.mono hr⟩
theorem cell8 {s op nm : List Nat} {n a z : Int} {kp kk : AV} (h1 : isCell kp = true) (h2 : isCell kk = true) : allL isCell (cellsA (.agg [.str s, kp, .str op, .str nm, .int .i64 n, .int .i64 a, kk, .int .i64 z])) = true := by
  show bif' (isCell kp) (bif' (isCell kk) true false) false = true
  rw [h1, h2]
  rfl
theorem tkPd : tk Tryd.prog 33 = .agg 8 := by kernel_rfl
theorem tkPds : tk Tryd.prog 29 = .one := by kernel_rfl
theorem fPd0 : fieldOff Tryd.prog 33 0 = some 0 := by kernel_rfl
theorem fPd1 : fieldOff Tryd.prog 33 1 = some 1 := by kernel_rfl
theorem fPd2 : fieldOff Tryd.prog 33 2 = some 2 := by kernel_rfl
theorem uPds : Tryd.prog.underlying 29 = some (.slice 33) := by kernel_rfl
theorem ePds : elemOfA Tryd.prog 29 = some 8 := by kernel_rfl
theorem zPd : zeroOf Tryd.prog 33 = some [.str [], .nils, .str [], .str [], .int .i64 0, .int .i64 0, .nils, .int .i64 0] := by kernel_rfl
theorem szPd : sizeA Tryd.prog 33 = some 8 := by kernel_rfl
def samePs : List Pd → List Pd → Bool
  | [], [] => true
  | a :: l, b :: r => sameP a b && samePs l r
  | _, _ => false
theorem cellN {h : Hp} {k : Nd} {op nm : List Nat} {n a : Int} {kk : AV} (hb : RdN h k [.str op, .str nm, .int .i64 n, .int .i64 a, kk]) : isCell kk = true := by
  obtain ⟨o0, s0, m0, z0, l0⟩ := k
  obtain ⟨_, e, h0⟩ := hb.open_ tkN
  injection e with x1 x; injection x with x2 x; injection x with x3 x; injection x with x4 x; injection x with x5 x
  subst x5
  exact h0.cell
/-- A row of predicates. -/
structure RdPs (h : Hp) (l : List Pd) (ks : AV) : Prop where
  len : slLen ks = some l.length
  bnd : (l.length : Int) ≤ 9223372036854775807
  cell : isCell ks = true
  at_ : ∀ (i : Nat) (d : Pd), l[i]? = some d → ∃ c m off cells cs, ks = .sl c m off l.length 8 ∧ RowV h c m cells ∧ (cells.drop (off + i * 8)).take 8 = cs ∧ RdP h d cs
theorem RdPs.mono {h h' : Hp} (hr : RowLe h h') {l : List Pd} {ks : AV} (r : RdPs h l ks) : RdPs h' l ks :=
  ⟨r.len, r.bnd, r.cell, fun i d hd => by
    obtain ⟨c, m, off, cells, cs, e, h1, h2, h3⟩ := r.at_ i d hd
    exact ⟨c, m, off, cells, cs, e, hr _ _ _ h1, h2, h3.mono hr⟩⟩
theorem Mem.rdps {h0 : Hp} {n0 : Nat} {st : St} {M : List (Nat × Nat × List AV)} (hM : Mem h0 n0 [] st M) {l : List Pd} {ks : AV} (r : RdPs h0 l ks) : RdPs st.h.get l ks := r.mono hM.rows
theorem RdPs.load {h : Hp} {l : List Pd} {ks : AV} (r : RdPs h l ks) {i : Nat} {d : Pd} (hd : l[i]? = some d) : ∃ c m off cs, ks = .sl c m off l.length 8 ∧ RdP h d cs ∧ loadA Tryd.prog 33 (.ptr c m (off + i * 8)) h = some (.agg cs) ∧
    (∃ kp, RdDs h d.params kp ∧ loadA Tryd.prog 28 (.ptr c m (off + i * 8 + 1)) h = some kp) ∧ ∃ cb, RdN h d.body cb ∧ loadA Tryd.prog 24 (.ptr c m (off + i * 8 + 2)) h = some (.agg cb) := by
  obtain ⟨c, m, off, cells, cs, e, hr, ht, hp⟩ := r.at_ i d hd
  have hp0 := hp
  obtain ⟨kp, op, nm, n, z, kk, rfl, hq, hb⟩ := hp
  have hd := List.take_append_drop 8 (cells.drop (off + i * 8))
  rw [ht] at hd
  refine ⟨c, m, off, _, e, hp0, load_row hr (part_agg tkPd ?_), ⟨kp, hq, load_row hr (part_one tkDcs ?_)⟩, _, hb, load_row hr (part_agg tkN ?_)⟩
  · rw [dropN_eq, ← hd]; rfl
  · rw [nth_eq, ← List.getElem?_drop, ← hd]; rfl
  · rw [dropN_eq, ← List.drop_drop, ← hd]; rfl
theorem samePs_step {a b : List Pd} {i : Nat} {k k' : Pd} (ha : a[i]? = some k) (hb : b[i]? = some k') : samePs (a.drop i) (b.drop i) = (sameP k k' && samePs (a.drop (i + 1)) (b.drop (i + 1))) := by
  obtain ⟨h1, h2⟩ := List.getElem?_eq_some_iff.1 ha
  obtain ⟨h3, h4⟩ := List.getElem?_eq_some_iff.1 hb
  rw [List.drop_eq_getElem_cons h1, List.drop_eq_getElem_cons h3, h2, h4, samePs]
/-- A program. -/
structure Pg where
  decls : List Dc
  preds : List Pd
  main : Nd
def sameG (a b : Pg) : Bool := sameDs a.decls b.decls && (samePs a.preds b.preds && sameN a.main b.main)
/-- It lies there. -/
def RdG (h : Hp) (p : Pg) (cs : List AV) : Prop := ∃ kd kp op nm n a kk, cs = [kd, kp, .str op, .str nm, .int .i64 n, .int .i64 a, kk] ∧ RdDs h p.decls kd ∧ RdPs h p.preds kp ∧ RdN h p.main [.str op, .str nm, .int .i64 n, .int .i64 a, kk]
theorem RdG.mono {h h' : Hp} (hr : RowLe h h') {p : Pg} {cs : List AV} (r : RdG h p cs) : RdG h' p cs := by
  obtain ⟨kd, kp, op, nm, n, a, kk, e, h1, h2, h3⟩ := r
  exact ⟨kd, kp, op, nm, n, a, kk, e, h1.mono hr, h2.mono hr, h3.mono hr⟩
theorem cell7 {op nm : List Nat} {n a : Int} {kd kp kk : AV} (h0 : isCell kd = true) (h1 : isCell kp = true) (h2 : isCell kk = true) : allL isCell (cellsA (.agg [kd, kp, .str op, .str nm, .int .i64 n, .int .i64 a, kk])) = true := by
  show bif' (isCell kd) (bif' (isCell kp) (bif' (isCell kk) true false) false) false = true
  rw [h0, h1, h2]
  rfl
theorem tkPg : tk Tryd.prog 31 = .agg 7 := by kernel_rfl
theorem fPg0 : fieldOff Tryd.prog 31 0 = some 0 := by kernel_rfl
theorem fPg1 : fieldOff Tryd.prog 31 1 = some 1 := by kernel_rfl
theorem fPg2 : fieldOff Tryd.prog 31 2 = some 2 := by kernel_rfl
theorem zPg : zeroOf Tryd.prog 31 = some [.nils, .nils, .str [], .str [], .int .i64 0, .int .i64 0, .nils] := by kernel_rfl
theorem szPg : sizeA Tryd.prog 31 = some 7 := by kernel_rfl
end Go.Proofs.YtmjnbdkjekdkgaaDoor
