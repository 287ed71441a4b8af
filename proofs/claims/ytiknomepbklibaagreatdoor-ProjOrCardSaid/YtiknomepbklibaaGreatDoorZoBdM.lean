/-
  What hangs on letters, plainly: nodes by number, none made twice.
-/
import Derived.Test.YtiknomepbklibaaGreatDoorZoKit
import Derived.Test.YtiknomepbklibaaGreatDoorZoKey
section
namespace Go.Proofs.YtiknomepbklibaaGreatDoor
set_option linter.unusedVariables false

/-- A leaf, or a fork. -/
inductive Bn where
  | leaf (v : Int)
  | fork (t l h : Nat)
abbrev Sto := List Bn
def evF (S : Sto) : Nat → Nat → Nat → Int
 | 0, _, _ => -1
 | k + 1, i, c => match S[i]? with
  | some (.leaf v) => v
  | some (.fork t l h) => evF S k (if c.testBit t then h else l) c
  | none => -1
/-- A node's value for a letter. -/
def evS (S : Sto) (i c : Nat) : Int := evF S (i + 1) i c
/-- A node's track; a leaf's is behind all. -/
def lvl (T : Nat) (S : Sto) (i : Nat) : Nat := match S[i]? with
  | some (.fork t _ _) => t
  | _ => T
structure WFS (T : Nat) (S : Sto) : Prop where
 nodup : S.Nodup
 fork : ∀ (i t l h : Nat), S[i]? = some (.fork t l h) → t < lvl T S l ∧ t < lvl T S h ∧ l < i ∧ h < i ∧ l ≠ h ∧ t < T
 leaf : ∀ (i : Nat) (v : Int), S[i]? = some (.leaf v) → 0 ≤ v ∧ v ≤ 1099511627776
theorem WFS.nil (T : Nat) : WFS T [] := ⟨List.nodup_nil, fun i t l h e => by simp at e, fun i v e => by simp at e⟩
theorem evF_fuel {T : Nat} {S : Sto} (W : WFS T S) (c : Nat) : ∀ i k k', i < k → i < k' → evF S k i c = evF S k' i c := by
 intro i
 induction i using Nat.strongRecOn with
 | _ i ih =>
  intro k k' h1 h2
  obtain ⟨k, rfl⟩ : ∃ x, k = x + 1 := ⟨k - 1, by omega⟩
  obtain ⟨k', rfl⟩ : ∃ x, k' = x + 1 := ⟨k' - 1, by omega⟩
  unfold evF
  cases hs : S[i]? with
  | none => rfl
  | some n =>
   cases n with
   | leaf v => rfl
   | fork t l h =>
    obtain ⟨_, _, e1, e2, _⟩ := W.fork _ _ _ _ hs
    show evF S k (if c.testBit t then h else l) c = evF S k' (if c.testBit t then h else l) c
    split
    ·exact ih h e2 _ _ (by omega) (by omega)
    ·exact ih l e1 _ _ (by omega) (by omega)
theorem ev_leaf {S : Sto} {i : Nat} {v : Int} (h : S[i]? = some (.leaf v)) (c : Nat) : evS S i c = v := by
 unfold evS evF
 rw [h]
theorem ev_fork {T : Nat} {S : Sto} (W : WFS T S) {i t l h : Nat} (e : S[i]? = some (.fork t l h)) (c : Nat) : evS S i c = if c.testBit t then evS S h c else evS S l c := by
 obtain ⟨_, _, e1, e2, _⟩ := W.fork _ _ _ _ e
 unfold evS
 rw [evF, e]
 show evF S i (if c.testBit t then h else l) c = _
 split
 ·exact evF_fuel W c _ _ _ (by omega) (by omega)
 ·exact evF_fuel W c _ _ _ (by omega) (by omega)
theorem lvl_app {T : Nat} {S : Sto} {i : Nat} (X : Sto) (hi : i < S.length) : lvl T (S ++ X) i = lvl T S i := by
 unfold lvl
 rw [List.getElem?_append_left hi]
theorem ev_app {T : Nat} {S : Sto} (W : WFS T S) (X : Sto) {i : Nat} (hi : i < S.length) (c : Nat) : evS (S ++ X) i c = evS S i c := by
 have key : ∀ k i, i < S.length → evF (S ++ X) k i c = evF S k i c := by
  intro k
  induction k with
  | zero => intro i _; rfl
  | succ k ih =>
   intro i hi
   unfold evF
   rw [List.getElem?_append_left hi]
   cases hs : S[i]? with
   | none => rfl
   | some n =>
    cases n with
    | leaf v => rfl
    | fork t l h =>
     obtain ⟨_, _, e1, e2, _⟩ := W.fork _ _ _ _ hs
     show evF (S ++ X) k (if c.testBit t then h else l) c = evF S k (if c.testBit t then h else l) c
     exact ih _ (by split <;> omega)
 exact key _ _ hi
theorem ev_pre {T : Nat} {S S' : Sto} (W : WFS T S) (h : S <+: S') {i : Nat} (hi : i < S.length) (c : Nat) : evS S' i c = evS S i c := by
 obtain ⟨X, rfl⟩ := h
 exact ev_app W X hi c
theorem lvl_pre {T : Nat} {S S' : Sto} (h : S <+: S') {i : Nat} (hi : i < S.length) : lvl T S' i = lvl T S i := by
 obtain ⟨X, rfl⟩ := h
 exact lvl_app X hi
/-- A node's number; it is put behind, if it is not there. -/
def PutB (S : Sto) (n : Bn) (i : Nat) (S' : Sto) : Prop := (S[i]? = some n ∧ S' = S) ∨ (n ∉ S ∧ i = S.length ∧ S' = S ++ [n])
theorem PutB.pre {S S' : Sto} {n : Bn} {i : Nat} (h : PutB S n i S') : S <+: S' ∧ S'[i]? = some n ∧ S'.length ≤ S.length + 1 := by
 rcases h with ⟨h, rfl⟩ | ⟨_, rfl, rfl⟩
 ·exact ⟨List.prefix_refl _, h, Nat.le_succ _⟩
 ·exact ⟨List.prefix_append _ _, by simp, by simp⟩
theorem PutB.wf {T : Nat} {S S' : Sto} {n : Bn} {i : Nat} (h : PutB S n i S') (W : WFS T S) (hl : ∀ v, n = .leaf v → 0 ≤ v ∧ v ≤ 1099511627776) (hf : ∀ t l h, n = .fork t l h → t < lvl T S l ∧ t < lvl T S h ∧ l < S.length ∧ h < S.length ∧ l ≠ h ∧ t < T) : WFS T S' := by
 rcases h with ⟨_, rfl⟩ | ⟨h0, rfl, rfl⟩
 ·exact W
 ·refine ⟨List.nodup_append.2 ⟨W.nodup, by simp, fun a ha b hb e => ?_⟩, fun i t l h e => ?_, fun i v e => ?_⟩
  ·rw [List.mem_singleton] at hb
   subst hb e
   exact h0 ha
  ·by_cases hi : i < S.length
   ·rw [List.getElem?_append_left hi] at e
    obtain ⟨e1, e2, e3, e4, e5, e6⟩ := W.fork _ _ _ _ e
    rw [lvl_app _ (by omega), lvl_app _ (by omega)]
    exact ⟨e1, e2, e3, e4, e5, e6⟩
   ·have hlt := (List.getElem?_eq_some_iff.1 e).1
    rw [List.length_append, List.length_singleton] at hlt
    have hi : i = S.length := by omega
    subst hi
    rw [List.getElem?_append_right (Nat.le_refl _), Nat.sub_self] at e
    injection e with e
    obtain ⟨e1, e2, e3, e4, e5, e6⟩ := hf _ _ _ e
    rw [lvl_app _ e3, lvl_app _ e4]
    exact ⟨e1, e2, e3, e4, e5, e6⟩
  ·by_cases hi : i < S.length
   ·rw [List.getElem?_append_left hi] at e
    exact W.leaf _ _ e
   ·have hlt := (List.getElem?_eq_some_iff.1 e).1
    rw [List.length_append, List.length_singleton] at hlt
    have hi : i = S.length := by omega
    subst hi
    rw [List.getElem?_append_right (Nat.le_refl _), Nat.sub_self] at e
    injection e with e
    exact hl _ e
/-- What a call that makes nodes hands back. -/
structure MadeB (T : Nat) (S : Sto) (k : Nat) (S' : Sto) (i : Nat) : Prop where
  wf : WFS T S'
  pre : S <+: S'
  lt : i < S'.length
  len : S'.length ≤ S.length + k
theorem leaf_ok {T : Nat} {S S' : Sto} {v : Int} {i : Nat} (h : PutB S (.leaf v) i S') (W : WFS T S) (hv : 0 ≤ v ∧ v ≤ 1099511627776) : MadeB T S 1 S' i ∧ lvl T S' i = T ∧ ∀ c, evS S' i c = v := by
 obtain ⟨h1, h2, h3⟩ := h.pre
 refine ⟨⟨h.wf W (fun w e => by injection e with e; subst e; exact hv) (fun _ _ _ e => by cases e), h1, (List.getElem?_eq_some_iff.1 h2).1, h3⟩, ?_, fun c => ev_leaf h2 c⟩
 unfold lvl; rw [h2]
/-- A track's node with two others. -/
def MkR (S : Sto) (t l h i : Nat) (S' : Sto) : Prop := (l = h ∧ i = l ∧ S' = S) ∨ (l ≠ h ∧ PutB S (.fork t l h) i S')
theorem mk_ok {T : Nat} {S S' : Sto} {t l h i : Nat} (H : MkR S t l h i S') (W : WFS T S) (ht : t < T) (hl : l < S.length) (hh : h < S.length) (h1 : t < lvl T S l) (h2 : t < lvl T S h) :
  MadeB T S 1 S' i ∧ t ≤ lvl T S' i ∧ ∀ c, evS S' i c = if c.testBit t then evS S h c else evS S l c := by
 rcases H with ⟨rfl, rfl, rfl⟩ | ⟨hne, H⟩
 ·exact ⟨⟨W, List.prefix_refl _, hl, Nat.le_succ _⟩, by omega, fun c => by split <;> rfl⟩
 ·obtain ⟨k1, k2, k3⟩ := H.pre
  have W' := H.wf W (fun _ e => by cases e) (fun _ _ _ e => by injection e with e1 e2 e3; subst e1 e2 e3; exact ⟨h1, h2, hl, hh, hne, ht⟩)
  refine ⟨⟨W', k1, (List.getElem?_eq_some_iff.1 k2).1, k3⟩, ?_, fun c => ?_⟩
  ·unfold lvl; rw [k2]; exact Nat.le_refl _
  ·rw [ev_fork W' k2, ev_pre W k1 hl, ev_pre W k1 hh]
/-- The values of all letters. -/
def rowB (T : Nat) (S : Sto) (i : Nat) : List Int := (List.range (2 ^ T)).map fun c => evS S i c
theorem rowB_len (T : Nat) (S : Sto) (i : Nat) : (rowB T S i).length = 2 ^ T := by simp [rowB]
theorem rowB_get {T c : Nat} (S : Sto) (i : Nat) (h : c < 2 ^ T) : (rowB T S i)[c]? = some (evS S i c) := by
 unfold rowB
 rw [List.getElem?_map, List.getElem?_range h]; rfl
theorem rowB_eq {T : Nat} {S : Sto} {i : Nat} {row : List Int} (hl : row.length = 2 ^ T) (h : ∀ c, c < 2 ^ T → row[c]? = some (evS S i c)) : rowB T S i = row := by
 apply List.ext_getElem?
 intro c
 by_cases hc : c < 2 ^ T
 ·rw [rowB_get S i hc, h c hc]
 ·rw [List.getElem?_eq_none (by rw [rowB_len]; omega), List.getElem?_eq_none (by omega)]
end Go.Proofs.YtiknomepbklibaaGreatDoor
end
section
namespace Go.Proofs.YtiknomepbklibaaGreatDoor
open Go Go.RowKit
set_option linter.unusedVariables false
set_option maxRecDepth 100000

def bnV : Bn → AV
 | .leaf v => .ifc 193 (.agg [.int .i64 v])
 | .fork t l h => .ifc 195 (.agg [.int .i64 ((t : Nat) : Int), .int .i64 ((l : Nat) : Int), .int .i64 ((h : Nat) : Int)])
theorem bnV_cell (n : Bn) : isCell (bnV n) = true := by cases n <;> rfl
theorem mkI_bdd_leaf (u : AV) : mkIfc Tryz.prog 193 u = some (.ifc 193 u) := by kernel_rfl
theorem mkI_bdd_fork (u : AV) : mkIfc Tryz.prog 195 u = some (.ifc 195 u) := by kernel_rfl
theorem asI_fork (u : AV) : asIfc Tryz.prog (.ifc 195 u) 195 true = some (.tup [u, .bool true]) := by kernel_rfl
theorem asI_leaf (u : AV) : asIfc Tryz.prog (.ifc 193 u) 195 true = some (.tup [.agg [.int .i64 0, .int .i64 0, .int .i64 0], .bool false]) := by kernel_rfl
theorem me_leaf : methA Tryz.prog 193 "sibyl/bdd.at" = some 211 := by kernel_rfl
theorem me_fork : methA Tryz.prog 195 "sibyl/bdd.at" = some 212 := by kernel_rfl
theorem eqAgg_leaf (a b : Int) : eqAgg Tryz.prog 193 [.int .i64 a] [.int .i64 b] = bif' (eqI a b) (some true) (some false) := by kernel_rfl
theorem eqAgg_fork (a b c x y z : Int) : eqAgg Tryz.prog 195 [.int .i64 a, .int .i64 b, .int .i64 c] [.int .i64 x, .int .i64 y, .int .i64 z] = bif' (eqI a x) (bif' (eqI b y) (bif' (eqI c z) (some true) (some false)) (some false)) (some false) := by kernel_rfl
theorem ifcOk_leaf (l : List AV) : ifcOk Tryz.prog (.ifc 193 (.agg l)) = isT (eqAgg Tryz.prog 193 l l) := by kernel_rfl
theorem ifcOk_fork (l : List AV) : ifcOk Tryz.prog (.ifc 195 (.agg l)) = isT (eqAgg Tryz.prog 195 l l) := by kernel_rfl
theorem ifcEq_ll (a b : List AV) : ifcEq Tryz.prog (.ifc 193 (.agg a)) (.ifc 193 (.agg b)) = eqBit (eqAgg Tryz.prog 193 a b) a b := by kernel_rfl
theorem ifcEq_ff (a b : List AV) : ifcEq Tryz.prog (.ifc 195 (.agg a)) (.ifc 195 (.agg b)) = eqBit (eqAgg Tryz.prog 195 a b) a b := by kernel_rfl
theorem ifcEq_lf (a b : List AV) : ifcEq Tryz.prog (.ifc 193 (.agg a)) (.ifc 195 (.agg b)) = some false := by kernel_rfl
theorem ifcEq_fl (a b : List AV) : ifcEq Tryz.prog (.ifc 195 (.agg a)) (.ifc 193 (.agg b)) = some false := by kernel_rfl
theorem un_bnode : ∃ ms, Tryz.prog.underlying 132 = some (.interface ms) := ⟨_, Tryz.underlying132⟩
theorem un_mapB : Tryz.prog.underlying 123 = some (.map 132 3) := by kernel_rfl
theorem key_bn : KeyT Tryz.prog 123 bnV (.int .i64 0) := by
 obtain ⟨ms, hu⟩ := un_bnode
 have eb : ∀ (a : Int), eqI a a = true := fun a => by rw [eqI_dec]; exact decide_eq_true rfl
 refine ⟨132, 3, .interface ms, un_mapB, hu, by kernel_rfl, fun a => ?_, fun a i => rfl, fun a b v n es i => ?_⟩
 ·cases a with
  | leaf v =>
   show ifcOk Tryz.prog (.ifc 193 (.agg [.int .i64 v])) = true
   rw [ifcOk_leaf, eqAgg_leaf, eb]; rfl
  | fork t l h =>
   show ifcOk Tryz.prog (.ifc 195 (.agg [.int .i64 ((t : Nat) : Int), .int .i64 ((l : Nat) : Int), .int .i64 ((h : Nat) : Int)])) = true
   rw [ifcOk_fork, eqAgg_fork, eb, eb, eb]; rfl
 ·have e : findP Tryz.prog 132 (.interface ms) (bnV a) ((bnV b, v, n) :: es) i = ob (ifcEq Tryz.prog (bnV a) (bnV b)) fun q => bif' q (some (some (i, v))) (findP Tryz.prog 132 (.interface ms) (bnV a) es (i + 1)) := by
   exact findQ_cons _ _ _ _ _ _ _
  have e2 : (a = b → ifcEq Tryz.prog (bnV a) (bnV b) = some true) ∧ (a ≠ b → ifcEq Tryz.prog (bnV a) (bnV b) = some false) := by
   cases a with
   | leaf x =>
    cases b with
    | leaf y =>
     rw [bnV, bnV, ifcEq_ll, eqAgg_leaf, eqI_dec]
     by_cases h : x = y
     ·subst h
      exact ⟨fun _ => by simp [bif_true, eqBit, bitL, bit1, eqK_self, eb, need_true'], fun h => absurd rfl h⟩
     ·exact ⟨fun e => by injection e with e; exact absurd e h, fun _ => by simp [h, bif_false, eqBit]⟩
    | fork t l h' => rw [bnV, bnV, ifcEq_lf]; exact ⟨fun e => (by cases e), fun _ => rfl⟩
   | fork t l h' =>
    cases b with
    | leaf y => rw [bnV, bnV, ifcEq_fl]; exact ⟨fun e => (by cases e), fun _ => rfl⟩
    | fork t2 l2 h2 =>
     rw [bnV, bnV, ifcEq_ff, eqAgg_fork, eqI_dec, eqI_dec, eqI_dec]
     by_cases h1 : t = t2
     ·by_cases h3 : l = l2
      ·by_cases h4 : h' = h2
       ·subst h1 h3 h4
        exact ⟨fun _ => by simp [bif_true, eqBit, bitL, bit1, eqK_self, eb, need_true'], fun h => absurd rfl h⟩
       ·exact ⟨fun e => by injection e with _ _ e; exact absurd e h4, fun _ => by simp [h1, h3, show ¬ ((h' : Int) = (h2 : Int)) by omega, bif_true, bif_false, eqBit]⟩
      ·exact ⟨fun e => by injection e with _ e; exact absurd e h3, fun _ => by simp [h1, show ¬ ((l : Int) = (l2 : Int)) by omega, bif_true, bif_false, eqBit]⟩
     ·exact ⟨fun e => by injection e with e; exact absurd e h1, fun _ => by simp [show ¬ ((t : Int) = (t2 : Int)) by omega, bif_false, eqBit]⟩
  rw [e]
  refine ⟨fun h => ?_, fun h => ?_⟩
  ·rw [e2.1 h]; rfl
  ·rw [e2.2 h]; rfl
/-- The nodes with their numbers. -/
def entL : Nat → Sto → List (Bn × AV)
  | _, [] => []
  | j, n :: S => (n, .int .i64 ((j : Nat) : Int)) :: entL (j + 1) S
theorem entL_snoc : ∀ (j : Nat) (S : Sto) (n : Bn), entL j (S ++ [n]) = entL j S ++ [(n, .int .i64 ((j + S.length : Nat) : Int))]
 | j, [], n => by simp [entL]
 | j, x :: S, n => by
  rw [List.cons_append, entL, entL, entL_snoc (j + 1) S n, List.cons_append, List.length_cons, show j + 1 + S.length = j + (S.length + 1) by omega]
theorem entL_mem : ∀ {j : Nat} {S : Sto} {n : Bn} {v : AV}, (n, v) ∈ entL j S → ∃ i : Nat, S[i]? = some n ∧ v = .int .i64 ((j + i : Nat) : Int)
 | j, [], n, v, h => by cases h
 | j, x :: S, n, v, h => by
  rcases List.mem_cons.1 h with e | h
  ·injection e with e1 e2
   subst e1 e2
   exact ⟨0, rfl, rfl⟩
  ·obtain ⟨i, h1, h2⟩ := entL_mem h
   exact ⟨i + 1, h1, by rw [h2]; congr 2; omega⟩
theorem mem_entL : ∀ {j : Nat} {S : Sto} {n : Bn}, n ∈ S → ∃ v, (n, v) ∈ entL j S
 | j, [], n, h => by cases h
 | j, x :: S, n, h => by
  rcases List.mem_cons.1 h with rfl | h
  ·exact ⟨_, List.mem_cons_self ..⟩
  ·obtain ⟨v, hv⟩ := mem_entL (j := j + 1) h
   exact ⟨v, List.mem_cons_of_mem _ hv⟩
theorem lk_none {S : Sto} {n : Bn} (h : lkK (entL 0 S) n = none) : n ∉ S := fun hm => by
 obtain ⟨v, hv⟩ := mem_entL (j := 0) hm
 exact lkK_none h v hv
theorem lk_some {S : Sto} {n : Bn} {v : AV} (h : lkK (entL 0 S) n = some v) : ∃ i : Nat, S[i]? = some n ∧ v = .int .i64 ((i : Nat) : Int) := by
 obtain ⟨i, h1, h2⟩ := entL_mem (lkK_mem h)
 exact ⟨i, h1, by rw [h2, Nat.zero_add]⟩
/-- Rows that lie there, as a thing. -/
def rowsO (R : Rows2) : Ob := ⟨fun c => ∃ m l, (c, m, l) ∈ R, fun h => ∀ c m l, (c, m, l) ∈ R → Row1 h c m l, fun h h' e H c m l hm => (H c m l hm).frame (e c ⟨m, l, hm⟩)⟩
/-- A Store. -/
def StoAt (h : Hp) (F : Fp) (sp T : Nat) (S : Sto) : Prop :=
  ∃ ks cm A, Row1 h sp 0 [.int .i64 ((T : Nat) : Int), ks, .mp cm] ∧ F sp ∧ F cm ∧ sp ≠ cm ∧ (mpO cm bnV (entL 0 S)).H h ∧ AccX A ks (S.map bnV) ∧ ∀ c m l, (c, m, l) ∈ A → Row1 h c m l ∧ F c ∧ c ≠ sp ∧ c ≠ cm
theorem StoAt.frame {h h' : Hp} {F : Fp} {sp T : Nat} {S : Sto} (e : ∀ c, F c → h' c = h c) (H : StoAt h F sp T S) : StoAt h' F sp T S := by
 obtain ⟨ks, cm, A, h1, h2, h3, h4, h5, h6, h7⟩ := H
 exact ⟨ks, cm, A, h1.frame (e sp h2), h2, h3, h4, (mpO cm bnV (entL 0 S)).fr _ _ (fun c hc => by have hc : c = cm := hc; rw [hc]; exact e cm h3) h5, h6, fun c m l hm => ⟨(h7 c m l hm).1.frame (e c (h7 c m l hm).2.1), (h7 c m l hm).2⟩⟩
def stoO (F : Fp) (sp T : Nat) (S : Sto) : Ob := ⟨F, fun h => StoAt h F sp T S, fun _ _ e H => H.frame e⟩
theorem StoAt.rd {h : Hp} {F : Fp} {sp T : Nat} {S : Sto} (H : StoAt h F sp T S) : ∃ ks cm, Row1 h sp 0 [.int .i64 ((T : Nat) : Int), ks, .mp cm] ∧ RdR h [] 1 (S.map fun n => [bnV n]) ks ∧ slLen ks = some S.length ∧ S.length ≤ 1000000000 := by
 obtain ⟨ks, cm, A, h1, h2, h3, h4, h5, h6, h7⟩ := H
 have hr := h6.rd fun c m l hm => (h7 c m l hm).1
 have hl := h6.len
 rw [List.length_map] at hl
 rw [List.map_map] at hr
 refine ⟨ks, cm, h1, hr, hl, ?_⟩
 generalize hv : S.map bnV = vs at h6
 have hl2 := congrArg List.length hv
 rw [List.length_map] at hl2
 cases h6 with
 | none => rw [hl2]; simp
 | own hb => rw [hl2]; exact hb
section
variable {st0 st : St} {X0 : Fp} {M : Rows2} {Os : List Ob} {F : Fp} {sp T cm : Nat} {S : Sto} {ks : AV} {A : Rows2}
theorem MemO.openS (B : MemO st0 X0 st M (stoO F sp T S :: Os)) : ∃ ks cm A, MemO st0 X0 st (((sp, 0, [.int .i64 ((T : Nat) : Int), ks, .mp cm]) :: A) ++ M) (mpO cm bnV (entL 0 S) :: Os) ∧ AccX A ks (S.map bnV) := by
 obtain ⟨ks, cm, A, h1, h2, h3, h4, h5, h6, h7⟩ := B.at_ (k := 0) rfl
 refine ⟨ks, cm, A, B.thaw (fun c m l hm => ?_) ?_ h5 (fun c hc => by have hc : c = cm := hc; rw [hc]; exact h3) fun c m l hm hc => ?_, h6⟩
 ·rcases List.mem_cons.1 hm with e | hm
  ·injection e with e1 e; injection e with e2 e3; subst e1 e2 e3
   exact ⟨h1, h2⟩
  ·exact ⟨(h7 c m l hm).1, (h7 c m l hm).2.1⟩
 ·rw [List.map_cons]
  refine List.nodup_cons.2 ⟨fun hm => ?_, h6.nodup⟩
  obtain ⟨⟨c, m, l⟩, e1, e2⟩ := List.mem_map.1 hm
  exact (h7 c m l e1).2.2.1 e2
 ·have hc : c = cm := hc
  subst hc
  rcases List.mem_cons.1 hm with e | hm
  ·injection e with e1 e; exact h4 e1.symm
  ·exact (h7 _ m l hm).2.2.2 rfl
theorem MemO.closeS (B : MemO st0 X0 st (((sp, 0, [.int .i64 ((T : Nat) : Int), ks, .mp cm]) :: A) ++ M) (mpO cm bnV (entL 0 S) :: Os)) (hA : AccX A ks (S.map bnV)) : ∃ F, MemO st0 X0 st M (stoO F sp T S :: Os) := by
 have hnd := B.nodup
 rw [List.cons_append, List.map_cons] at hnd
 have hn1 := (List.nodup_cons.1 hnd).1
 have hdj : ∀ c m l, (c, m, l) ∈ ((sp, 0, [.int .i64 ((T : Nat) : Int), ks, .mp cm]) :: A) ++ M → c ≠ cm := fun c m l hm e => B.djM (mpO cm bnV (entL 0 S)) (by simp) c m l hm e
 have B1 := B.freeze (o := rowsO ((sp, 0, [.int .i64 ((T : Nat) : Int), ks, .mp cm]) :: A)) (fun c m l hm => B.row c m l (List.mem_append_left _ hm)) (fun c hc => hc)
 refine ⟨fun c => (rowsO ((sp, 0, [.int .i64 ((T : Nat) : Int), ks, .mp cm]) :: A)).F c ∨ c = cm, B1.join (fun h1 h2 => ?_) fun c hc => hc⟩
 refine ⟨ks, cm, A, h1 _ _ _ (by simp), .inl ⟨_, _, List.mem_cons_self ..⟩, .inr rfl, fun e => ?_, h2, hA, fun c m l hm => ⟨h1 _ _ _ (List.mem_cons_of_mem _ hm), .inl ⟨m, l, List.mem_cons_of_mem _ hm⟩, fun e => ?_, fun e => ?_⟩⟩
 ·exact hdj sp _ _ (List.mem_cons_self ..) e
 ·subst e
  exact hn1 (List.mem_map.2 ⟨(_, m, l), List.mem_append_left _ hm, rfl⟩)
 ·exact hdj c m l (by simp [hm]) e
end
/-- What a call that is handed a Store hands back. -/
def StoOut (st st' : St) (F : Fp) (sp T : Nat) (S' : Sto) : Prop := ∃ F', StoAt st'.h.get F' sp T S' ∧ MoreF st st' F F' ∧ ChgF F st st'
theorem MemO.outS {st0 st : St} {F F' : Fp} {M : Rows2} {Os : List Ob} {sp T : Nat} {S' : Sto} (B : MemO st0 F st M (stoO F' sp T S' :: Os)) : StoOut st0 st F sp T S' :=
 ⟨F', B.at_ (k := 0) rfl, fun c hc => ⟨(B.lo_ (k := 0) rfl c hc).symm, B.hi_ (k := 0) rfl c hc⟩, B.chgF⟩
theorem MemO.callS {st0 st st' : St} {X0 F : Fp} {M : Rows2} {Os : List Ob} {sp T : Nat} {S S' : Sto} (B : MemO st0 X0 st M (stoO F sp T S :: Os)) (h : StoOut st st' F sp T S') : ∃ F', MemO st0 X0 st' M (stoO F' sp T S' :: Os) := by
 obtain ⟨F', h1, h2, h3⟩ := h
 exact ⟨F', B.call (k := 0) rfl h3 (o' := stoO F' sp T S') h1 h2⟩
theorem PutB.app {S : Sto} {n : Bn} (h : n ∉ S) : PutB S n S.length (S ++ [n]) := .inr ⟨h, rfl, rfl⟩
theorem map_bnV_snoc (S : Sto) (n : Bn) : S.map bnV ++ [bnV n] = (S ++ [n]).map bnV := by simp
end Go.Proofs.YtiknomepbklibaaGreatDoor
end
