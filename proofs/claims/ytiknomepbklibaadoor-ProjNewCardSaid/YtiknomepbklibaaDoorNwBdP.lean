/-
  What hangs on letters, plainly: nodes by number, none made twice.
-/
import Derived.Test.YtiknomepbklibaaDoorNwKit
namespace Go.Proofs.YtiknomepbklibaaDoor
set_option linter.unusedVariables false

/-- A leaf, or a fork. -/
inductive Bn where
  | leaf (v : Int)
  | fork (t l h : Nat)
abbrev Sto := List Bn
def evF (S : Sto) : Nat → Nat → Nat → Int
 | 0, _, _ => -1
 | k + 1, i, c => match S[i]? with
  | some (.leaf v) => v
  | some (.fork t l h) => evF S k (if c.testBit t then h else l) c
  | none => -1
/-- A node's value for a letter. -/
def evS (S : Sto) (i c : Nat) : Int := evF S (i + 1) i c
/-- A node's track; a leaf's is behind all. -/
def lvl (T : Nat) (S : Sto) (i : Nat) : Nat := match S[i]? with
  | some (.fork t _ _) => t
  | _ => T
structure WFS (T : Nat) (S : Sto) : Prop where
 nodup : S.Nodup
 fork : ∀ (i t l h : Nat), S[i]? = some (.fork t l h) → t < lvl T S l ∧ t < lvl T S h ∧ l < i ∧ h < i ∧ l ≠ h ∧ t < T
 leaf : ∀ (i : Nat) (v : Int), S[i]? = some (.leaf v) → 0 ≤ v ∧ v ≤ 1099511627776
theorem WFS.nil (T : Nat) : WFS T [] := ⟨List.nodup_nil, fun i t l h e => by simp at e, fun i v e => by simp at e⟩
theorem evF_fuel {T : Nat} {S : Sto} (W : WFS T S) (c : Nat) : ∀ i k k', i < k → i < k' → evF S k i c = evF S k' i c := by
 intro i
 induction i using Nat.strongRecOn with
 | _ i ih =>
  intro k k' h1 h2
  obtain ⟨k, rfl⟩ : ∃ x, k = x + 1 := ⟨k - 1, by omega⟩
  obtain ⟨k', rfl⟩ : ∃ x, k' = x + 1 := ⟨k' - 1, by omega⟩
  unfold evF
  cases hs : S[i]? with
  | none => rfl
  | some n =>
   cases n with
   | leaf v => rfl
   | fork t l h =>
    obtain ⟨_, _, e1, e2, _⟩ := W.fork _ _ _ _ hs
    show evF S k (if c.testBit t then h else l) c = evF S k' (if c.testBit t then h else l) c
    split
    ·exact ih h e2 _ _ (by omega) (by omega)
    ·exact ih l e1 _ _ (by omega) (by omega)
theorem ev_leaf {S : Sto} {i : Nat} {v : Int} (h : S[i]? = some (.leaf v)) (c : Nat) : evS S i c = v := by
 unfold evS evF
 rw [h]
theorem ev_fork {T : Nat} {S : Sto} (W : WFS T S) {i t l h : Nat} (e : S[i]? = some (.fork t l h)) (c : Nat) : evS S i c = if c.testBit t then evS S h c else evS S l c := by
 obtain ⟨_, _, e1, e2, _⟩ := W.fork _ _ _ _ e
 unfold evS
 rw [evF, e]
 show evF S i (if c.testBit t then h else l) c = _
 split
 ·exact evF_fuel W c _ _ _ (by omega) (by omega)
 ·exact evF_fuel W c _ _ _ (by omega) (by omega)
theorem lvl_app {T : Nat} {S : Sto} {i : Nat} (X : Sto) (hi : i < S.length) : lvl T (S ++ X) i = lvl T S i := by
 unfold lvl
 rw [List.getElem?_append_left hi]
theorem ev_app {T : Nat} {S : Sto} (W : WFS T S) (X : Sto) {i : Nat} (hi : i < S.length) (c : Nat) : evS (S ++ X) i c = evS S i c := by
 have key : ∀ k i, i < S.length → evF (S ++ X) k i c = evF S k i c := by
  intro k
  induction k with
  | zero => intro i _; rfl
  | succ k ih =>
   intro i hi
   unfold evF
   rw [List.getElem?_append_left hi]
   cases hs : S[i]? with
   | none => rfl
   | some n =>
    cases n with
    | leaf v => rfl
    | fork t l h =>
     obtain ⟨_, _, e1, e2, _⟩ := W.fork _ _ _ _ hs
     show evF (S ++ X) k (if c.testBit t then h else l) c = evF S k (if c.testBit t then h else l) c
     exact ih _ (by split <;> omega)
 exact key _ _ hi
theorem ev_pre {T : Nat} {S S' : Sto} (W : WFS T S) (h : S <+: S') {i : Nat} (hi : i < S.length) (c : Nat) : evS S' i c = evS S i c := by
 obtain ⟨X, rfl⟩ := h
 exact ev_app W X hi c
theorem lvl_pre {T : Nat} {S S' : Sto} (h : S <+: S') {i : Nat} (hi : i < S.length) : lvl T S' i = lvl T S i := by
 obtain ⟨X, rfl⟩ := h
 exact lvl_app X hi
/-- A node's number; it is put behind, if it is not there. -/
def PutB (S : Sto) (n : Bn) (i : Nat) (S' : Sto) : Prop := (S[i]? = some n ∧ S' = S) ∨ (n ∉ S ∧ i = S.length ∧ S' = S ++ [n])
theorem PutB.pre {S S' : Sto} {n : Bn} {i : Nat} (h : PutB S n i S') : S <+: S' ∧ S'[i]? = some n ∧ S'.length ≤ S.length + 1 := by
 rcases h with ⟨h, rfl⟩ | ⟨_, rfl, rfl⟩
 ·exact ⟨List.prefix_refl _, h, Nat.le_succ _⟩
 ·exact ⟨List.prefix_append _ _, by simp, by simp⟩
theorem PutB.wf {T : Nat} {S S' : Sto} {n : Bn} {i : Nat} (h : PutB S n i S') (W : WFS T S) (hl : ∀ v, n = .leaf v → 0 ≤ v ∧ v ≤ 1099511627776) (hf : ∀ t l h, n = .fork t l h → t < lvl T S l ∧ t < lvl T S h ∧ l < S.length ∧ h < S.length ∧ l ≠ h ∧ t < T) : WFS T S' := by
 rcases h with ⟨_, rfl⟩ | ⟨h0, rfl, rfl⟩
 ·exact W
 ·refine ⟨List.nodup_append.2 ⟨W.nodup, by simp, fun a ha b hb e => ?_⟩, fun i t l h e => ?_, fun i v e => ?_⟩
  ·rw [List.mem_singleton] at hb
   subst hb e
   exact h0 ha
  ·by_cases hi : i < S.length
   ·rw [List.getElem?_append_left hi] at e
    obtain ⟨e1, e2, e3, e4, e5, e6⟩ := W.fork _ _ _ _ e
    rw [lvl_app _ (by omega), lvl_app _ (by omega)]
    exact ⟨e1, e2, e3, e4, e5, e6⟩
   ·have hlt := (List.getElem?_eq_some_iff.1 e).1
    rw [List.length_append, List.length_singleton] at hlt
    have hi : i = S.length := by omega
    subst hi
    rw [List.getElem?_append_right (Nat.le_refl _), Nat.sub_self] at e
    injection e with e
    obtain ⟨e1, e2, e3, e4, e5, e6⟩ := hf _ _ _ e
    rw [lvl_app _ e3, lvl_app _ e4]
    exact ⟨e1, e2, e3, e4, e5, e6⟩
  ·by_cases hi : i < S.length
   ·rw [List.getElem?_append_left hi] at e
    exact W.leaf _ _ e
   ·have hlt := (List.getElem?_eq_some_iff.1 e).1
    rw [List.length_append, List.length_singleton] at hlt
    have hi : i = S.length := by omega
    subst hi
    rw [List.getElem?_append_right (Nat.le_refl _), Nat.sub_self] at e
    injection e with e
    exact hl _ e
/-- What a call that makes nodes hands back. -/
structure MadeB (T : Nat) (S : Sto) (k : Nat) (S' : Sto) (i : Nat) : Prop where
  wf : WFS T S'
  pre : S <+: S'
  lt : i < S'.length
  len : S'.length ≤ S.length + k
theorem leaf_ok {T : Nat} {S S' : Sto} {v : Int} {i : Nat} (h : PutB S (.leaf v) i S') (W : WFS T S) (hv : 0 ≤ v ∧ v ≤ 1099511627776) : MadeB T S 1 S' i ∧ lvl T S' i = T ∧ ∀ c, evS S' i c = v := by
 obtain ⟨h1, h2, h3⟩ := h.pre
 refine ⟨⟨h.wf W (fun w e => by injection e with e; subst e; exact hv) (fun _ _ _ e => by cases e), h1, (List.getElem?_eq_some_iff.1 h2).1, h3⟩, ?_, fun c => ev_leaf h2 c⟩
 unfold lvl; rw [h2]
/-- A track's node with two others. -/
def MkR (S : Sto) (t l h i : Nat) (S' : Sto) : Prop := (l = h ∧ i = l ∧ S' = S) ∨ (l ≠ h ∧ PutB S (.fork t l h) i S')
theorem mk_ok {T : Nat} {S S' : Sto} {t l h i : Nat} (H : MkR S t l h i S') (W : WFS T S) (ht : t < T) (hl : l < S.length) (hh : h < S.length) (h1 : t < lvl T S l) (h2 : t < lvl T S h) :
  MadeB T S 1 S' i ∧ t ≤ lvl T S' i ∧ ∀ c, evS S' i c = if c.testBit t then evS S h c else evS S l c := by
 rcases H with ⟨rfl, rfl, rfl⟩ | ⟨hne, H⟩
 ·exact ⟨⟨W, List.prefix_refl _, hl, Nat.le_succ _⟩, by omega, fun c => by split <;> rfl⟩
 ·obtain ⟨k1, k2, k3⟩ := H.pre
  have W' := H.wf W (fun _ e => by cases e) (fun _ _ _ e => by injection e with e1 e2 e3; subst e1 e2 e3; exact ⟨h1, h2, hl, hh, hne, ht⟩)
  refine ⟨⟨W', k1, (List.getElem?_eq_some_iff.1 k2).1, k3⟩, ?_, fun c => ?_⟩
  ·unfold lvl; rw [k2]; exact Nat.le_refl _
  ·rw [ev_fork W' k2, ev_pre W k1 hl, ev_pre W k1 hh]
/-- The values of all letters. -/
def rowB (T : Nat) (S : Sto) (i : Nat) : List Int := (List.range (2 ^ T)).map fun c => evS S i c
theorem rowB_len (T : Nat) (S : Sto) (i : Nat) : (rowB T S i).length = 2 ^ T := by simp [rowB]
theorem rowB_get {T c : Nat} (S : Sto) (i : Nat) (h : c < 2 ^ T) : (rowB T S i)[c]? = some (evS S i c) := by
 unfold rowB
 rw [List.getElem?_map, List.getElem?_range h]; rfl
theorem rowB_eq {T : Nat} {S : Sto} {i : Nat} {row : List Int} (hl : row.length = 2 ^ T) (h : ∀ c, c < 2 ^ T → row[c]? = some (evS S i c)) : rowB T S i = row := by
 apply List.ext_getElem?
 intro c
 by_cases hc : c < 2 ^ T
 ·rw [rowB_get S i hc, h c hc]
 ·rw [List.getElem?_eq_none (by rw [rowB_len]; omega), List.getElem?_eq_none (by omega)]
end Go.Proofs.YtiknomepbklibaaDoor
