/-
  Which states accept the same, plainly: classes that are made finer; the least automaton.
-/
import Derived.Test.YtiknomepbklibaaDoorQtAm
import Derived.Test.YtiknomepbklibaaDoorQtArr
import Derived.Test.YtiknomepbklibaaDoorQtPlq
import Derived.Test.YtiknomepbklibaaDoorProg
import Derived.Test.YtiknomepbklibaaDoorQtTyg
section
namespace Go.Proofs.YtiknomepbklibaaDoor
set_option linter.unusedVariables false

abbrev cv (cl : List Int) (s : Nat) : Int := (cl[s]?).getD 0
/-! How many classes: as many as there are numbers. -/
/-! Numbers as they come. -/
/-! Pairs that are alike: fewer and fewer. -/
def pairsN (n : Nat) : List (Nat × Nat) := (List.range n).flatMap fun s => (List.range n).map fun t => (s, t)
def alike (n : Nat) (cl : List Int) : Nat := (pairsN n).countP fun x => decide (cv cl x.1 = cv cl x.2)
/-! The least automaton. -/
/-- Rows of K numbers, one behind the other. -/
structure RowsE (K : Nat) (rows : List (List Int)) (es : List Nat) : Prop where
  len : ∀ r ∈ rows, r.length = K
  flat : rows.flatten = es.map fun v => ((v : Nat) : Int)
theorem flat_len2 {α : Type} {K : Nat} : ∀ {rows : List (List α)}, (∀ r ∈ rows, r.length = K) → rows.flatten.length = rows.length * K
 | [], _ => by simp
 | r :: rows, h => by
  rw [List.flatten_cons, List.length_append, flat_len2 fun x hx => h x (by simp [hx]), h r (by simp), List.length_cons, Nat.succ_mul, Nat.add_comm]
theorem flat_at {α : Type} {K : Nat} : ∀ {rows : List (List α)} {i c : Nat} {r : List α}, (∀ r ∈ rows, r.length = K) → rows[i]? = some r → c < K → rows.flatten[i * K + c]? = r[c]?
 | [], i, c, r, _, h, _ => by simp at h
 | x :: rows, 0, c, r, h, hr, hc => by
  injection hr with hr
  subst hr
  rw [Nat.zero_mul, Nat.zero_add, List.flatten_cons, List.getElem?_append_left (by rw [h x (by simp)]; exact hc)]
 | x :: rows, i + 1, c, r, h, hr, hc => by
  have hx := h x (by simp)
  rw [List.flatten_cons, Nat.succ_mul, List.getElem?_append_right (by omega), hx, show i * K + K + c - K = i * K + c by omega]
  exact flat_at (fun y hy => h y (by simp [hy])) hr hc
theorem RowsE.go {a : Au} {es : List Nat} (R : RowsE a.K a.nx es) {i c : Nat} (hi : i < a.nx.length) (hc : c < a.K) : es[i * a.K + c]? = some (a.go i c) ∧ ∃ r, a.nx[i]? = some r ∧ r[c]? = some ((a.go i c : Nat) : Int) := by
 obtain ⟨r, hr⟩ : ∃ r, a.nx[i]? = some r := ⟨_, List.getElem?_eq_getElem hi⟩
 have hl := R.len r (List.mem_of_getElem? hr)
 have h1 := flat_at R.len hr hc
 obtain ⟨z, hz⟩ : ∃ z, r[c]? = some z := ⟨_, List.getElem?_eq_getElem (by rw [hl]; exact hc)⟩
 rw [R.flat, List.getElem?_map, hz] at h1
 cases hv : es[i * a.K + c]? with
 | none => rw [hv] at h1; cases h1
 | some v =>
  rw [hv] at h1
  injection h1 with h1
  have e : a.go i c = v := by unfold Au.go; rw [hr, Option.getD_some, hz, Option.getD_some, ← h1]; simp
  exact ⟨by rw [e], r, hr, by rw [hz, e]; exact congrArg some h1.symm⟩
/-- An automaton made of states that were numbered as they came. -/
structure MadeA {α : Type} (δ : α → Nat → α) (s0 : α) (p : α → Bool) (l : List α) (m : Au) : Prop where
  ex : ∃ es, Expl δ s0 m.K l es ∧ RowsE m.K m.nx es
  len : m.nx.length = l.length
  acc : m.acc = l.map p
  tr : m.tr ≤ 6
  most : l.length ≤ 400
section
variable {α : Type} {δ : α → Nat → α} {s0 : α} {p : α → Bool} {l : List α} {m : Au}
theorem MadeA.n (H : MadeA δ s0 p l m) : m.n = l.length := by unfold Au.n; rw [H.acc, List.length_map]
theorem MadeA.go (H : MadeA δ s0 p l m) {i c : Nat} {s : α} (hs : l[i]? = some s) (hc : c < m.K) : l[m.go i c]? = some (δ s c) := by
 obtain ⟨es, E, R⟩ := H.ex
 have hi := (List.getElem?_eq_some_iff.1 hs).1
 obtain ⟨h1, _⟩ := R.go (a := m) (by rw [H.len]; exact hi) hc
 obtain ⟨s', b1, b2⟩ := E.step _ _ h1
 have e1 : (i * m.K + c) / m.K = i := by rw [Nat.mul_comm, Nat.mul_add_div (by omega), Nat.div_eq_of_lt hc]; rfl
 have e2 : (i * m.K + c) % m.K = c := by rw [Nat.mul_comm, Nat.mul_add_mod]; exact Nat.mod_eq_of_lt hc
 rw [e1, hs] at b1
 injection b1 with b1
 subst b1
 rw [e2] at b2
 exact b2
theorem MadeA.head (H : MadeA δ s0 p l m) : l[0]? = some s0 := by obtain ⟨es, E, R⟩ := H.ex; exact E.head
theorem MadeA.wf (H : MadeA δ s0 p l m) : WFA m := by
 have hp := (List.getElem?_eq_some_iff.1 H.head).1
 obtain ⟨es, E, R⟩ := H.ex
 refine ⟨H.tr, by rw [H.n]; exact hp, by rw [H.n]; exact H.most, by rw [H.n]; exact H.len, fun r hr => ⟨R.len r hr, fun z hz => ?_⟩⟩
 obtain ⟨v, hv, rfl⟩ : ∃ v ∈ es, ((v : Nat) : Int) = z := by
  have : z ∈ m.nx.flatten := List.mem_flatten.2 ⟨r, hr, hz⟩
  rw [R.flat] at this
  exact List.mem_map.1 this
 obtain ⟨q, hq⟩ := List.getElem?_of_mem hv
 have := E.lt hq
 rw [H.n]
 omega
theorem MadeA.run (H : MadeA δ s0 p l m) (w : List Nat) : ∀ {i : Nat} {s : α}, l[i]? = some s → LetK m.K w → l[m.run i w]? = some (w.foldl δ s) := by
 induction w with
 | nil => intro i s hs _; exact hs
 | cons c w ih => intro i s hs hw; exact ih (H.go hs (hw c (by simp))) fun x hx => hw x (by simp [hx])
theorem MadeA.ok (H : MadeA δ s0 p l m) {i : Nat} {s : α} (hs : l[i]? = some s) : m.ok i = p s := by
 unfold Au.ok
 rw [H.acc, List.getElem?_map, hs]; rfl
theorem MadeA.lang (H : MadeA δ s0 p l m) {w : List Nat} (hw : LetK m.K w) : m.ok (m.run 0 w) = p (w.foldl δ s0) := H.ok (H.run w H.head hw)
end
end Go.Proofs.YtiknomepbklibaaDoor
end
section
namespace Go.Proofs.YtiknomepbklibaaDoor
open Go Go.RowKit
set_option linter.unusedVariables false
set_option maxRecDepth 100000

theorem RdR.monoZ {h h' : Hp} {z : Nat} {ls : List (List AV)} {kk : AV} (hl : RowLe h h') (r : RdR h [] z ls kk) : RdR h' [] z ls kk :=
 ⟨r.len, r.bnd, r.cell, fun i cs hi => by
  obtain ⟨c, m, off, cells, h1, h2, h3, h4⟩ := r.at_ i cs hi
  exact ⟨c, m, off, cells, h1, h2, hl _ _ _ h3, h4⟩, fun c m off n z' e => by
  obtain ⟨h1, cells, h2, h3⟩ := r.alive c m off n z' e
  exact ⟨h1, cells, hl _ _ _ h2, h3⟩⟩
theorem rd_listsZ {H : Type} {h : Hp} {xs : List AV} {d : DataW H} (r : Rd Tryd.prog h 23 xs d) : ∃ ks l ls, xs = [ks] ∧ LsR h l ks ls := by
 obtain ⟨ks, l, ls, e, H⟩ := rd_rowsZ (R := ListR h) [] un_S_S_int ce_S_int (fun cs d r => by
  obtain ⟨k, l, e, h1, h2⟩ := rd_intsZ r
  exact ⟨l, k, e, h1, h2⟩) r
 exact ⟨ks, l, ls, e, H⟩
end Go.Proofs.YtiknomepbklibaaDoor
end
section
namespace Go.Proofs.YtiknomepbklibaaDoor
open Go
set_option maxRecDepth 100000

theorem tk_func_int__bool : tk Tryd.prog 53 = .one := by kernel_rfl
theorem sz_func_int__bool : sizeA Tryd.prog 53 = some 1 := by kernel_rfl
theorem ze_func_int__bool : zeroOf Tryd.prog 53 = some [.nilf] := by kernel_rfl
end Go.Proofs.YtiknomepbklibaaDoor
end
