/-
  Which states accept the same, plainly: classes that are made finer; the least automaton.
-/
import Derived.Test.YtiknomepbklibaaGreatDoorZoAm
namespace Go.Proofs.YtiknomepbklibaaGreatDoor
set_option linter.unusedVariables false

abbrev cv (cl : List Int) (s : Nat) : Int := (cl[s]?).getD 0
/-- Classes that do not part what accepts the same. -/
structure Fine (a : Au) (cl : List Int) : Prop where
  len : cl.length = a.n
  like : ∀ s t, s < a.n → t < a.n → Like a a s t → cv cl s = cv cl t
  ok : ∀ s t, s < a.n → t < a.n → cv cl s = cv cl t → a.ok s = a.ok t
/-- Made finer by next states. -/
structure Finer (a : Au) (cl cl' : List Int) : Prop where
  len : cl'.length = a.n
  iff : ∀ s t, s < a.n → t < a.n → (cv cl' s = cv cl' t ↔ cv cl s = cv cl t ∧ ∀ c, c < a.K → cv cl (a.go s c) = cv cl (a.go t c))
def Stable (a : Au) (cl : List Int) : Prop := ∀ s t, s < a.n → t < a.n → cv cl s = cv cl t → ∀ c, c < a.K → cv cl (a.go s c) = cv cl (a.go t c)
structure ClsOk (a : Au) (cl : List Int) : Prop where
 len : cl.length = a.n
 iff : ∀ s t, s < a.n → t < a.n → (cv cl s = cv cl t ↔ Like a a s t)
theorem Fine.finer {a : Au} {cl cl' : List Int} (W : WFA a) (h : Fine a cl) (f : Finer a cl cl') : Fine a cl' :=
 ⟨f.len, fun s t hs ht hl => (f.iff s t hs ht).2 ⟨h.like s t hs ht hl, fun c hc => h.like _ _ (W.go_lt hs hc) (W.go_lt ht hc) (hl.go hc)⟩, fun s t hs ht e => h.ok s t hs ht ((f.iff s t hs ht).1 e).1⟩
theorem Fine.stable {a : Au} {cl : List Int} (W : WFA a) (h : Fine a cl) (st : Stable a cl) : ClsOk a cl := by
 refine ⟨h.len, fun s t hs ht => ⟨fun e w hw => ?_, h.like s t hs ht⟩⟩
 induction w generalizing s t with
 | nil => exact h.ok s t hs ht e
 | cons c w ih =>
  have hc := hw c (by simp)
  exact ih _ _ (W.go_lt hs hc) (W.go_lt ht hc) (st s t hs ht e c hc) fun x hx => hw x (by simp [hx])
/-- The first classes: those that accept, those that do not. -/
theorem fine_first {a : Au} {cl : List Int} (hl : cl.length = a.n) (h : ∀ s t, s < a.n → t < a.n → (cv cl s = cv cl t ↔ a.ok s = a.ok t)) : Fine a cl :=
  ⟨hl, fun s t hs ht e => (h s t hs ht).2 (e [] fun _ h => by cases h), fun s t hs ht e => (h s t hs ht).1 e⟩
/-! How many classes: as many as there are numbers. -/
def Onto (n : Nat) (cl : List Int) (k : Nat) : Prop := (∀ s, s < n → 0 ≤ cv cl s ∧ cv cl s < k) ∧ ∀ v, v < k → ∃ s, s < n ∧ cv cl s = ((v : Nat) : Int)
theorem onto_le {a : Au} {cl cl' : List Int} {k k' : Nat} (f : Finer a cl cl') (h : Onto a.n cl k) (h' : Onto a.n cl' k') : k ≤ k' ∧ (k = k' → ∀ s t, s < a.n → t < a.n → cv cl s = cv cl t → cv cl' s = cv cl' t) := by
 have hr : ∃ r : Nat → Nat, ∀ v, v < k → r v < a.n ∧ cv cl (r v) = ((v : Nat) : Int) := by
  have : ∀ v, ∃ s, v < k → s < a.n ∧ cv cl s = ((v : Nat) : Int) := fun v => by
   by_cases hv : v < k
   ·obtain ⟨s, hs⟩ := h.2 v hv
    exact ⟨s, fun _ => hs⟩
   ·exact ⟨0, fun h => absurd h hv⟩
  exact Classical.axiomOfChoice this
 obtain ⟨r, hr⟩ := hr
 -- numbers of the finer classes of those that stand for the others
 have hnd : ∀ m, m ≤ k → ((List.range m).map fun v => (cv cl' (r v)).toNat).Nodup := fun m hm => by
  refine List.pairwise_map.2 ((List.nodup_range (n := m)).imp_of_mem fun {x y} hx hy hne e => ?_)
  have hx := List.mem_range.1 hx
  have hy := List.mem_range.1 hy
  obtain ⟨x1, x2⟩ := hr x (by omega)
  obtain ⟨y1, y2⟩ := hr y (by omega)
  have a1 := h'.1 _ x1
  have a2 := h'.1 _ y1
  have e' : cv cl' (r x) = cv cl' (r y) := by omega
  have := ((f.iff _ _ x1 y1).1 e').1
  omega
 have hin : ∀ s, s < a.n → (cv cl' s).toNat ∈ List.range k' := fun s hs => by
  have := h'.1 s hs
  exact List.mem_range.2 (by omega)
 have hall : ∀ m, m ≤ k → ∀ x ∈ (List.range m).map fun v => (cv cl' (r v)).toNat, x ∈ List.range k' := fun m hm x hx => by
  obtain ⟨v, hv, rfl⟩ := List.mem_map.1 hx
  exact hin _ (hr v (by have := List.mem_range.1 hv; omega)).1
 have hle := nodup_le (hnd k (Nat.le_refl _)) (hall k (Nat.le_refl _))
 simp only [List.length_map, List.length_range] at hle
 refine ⟨hle, fun e s t hs ht hst => ?_⟩
 -- all states of a class of the coarser ones have the finer class of the one that stands for it
 have key : ∀ u, u < a.n → cv cl' u = cv cl' (r (cv cl u).toNat) := fun u hu => Classical.byContradiction fun hne => by
  have hv := h.1 u hu
  have hvk : (cv cl u).toNat < k := by omega
  obtain ⟨r1, r2⟩ := hr _ hvk
  have hnew : ((cv cl' u).toNat :: (List.range k).map fun v => (cv cl' (r v)).toNat).Nodup := by
   refine List.nodup_cons.2 ⟨fun hm => ?_, hnd k (Nat.le_refl _)⟩
   obtain ⟨v, hv', e'⟩ := List.mem_map.1 hm
   have hv' := List.mem_range.1 hv'
   obtain ⟨v1, v2⟩ := hr v hv'
   have b1 := h'.1 _ v1
   have b2 := h'.1 _ hu
   have e2 : cv cl' (r v) = cv cl' u := by omega
   have e3 := ((f.iff _ _ v1 hu).1 e2).1
   have e4 : v = (cv cl u).toNat := by omega
   subst e4
   exact hne e2.symm
  have := nodup_le hnew (b := List.range k') fun x hx => by
   rcases List.mem_cons.1 hx with rfl | hx
   ·exact hin u hu
   ·exact hall k (Nat.le_refl _) x hx
  simp only [List.length_cons, List.length_map, List.length_range] at this
  omega
 rw [key s hs, key t ht, hst]
theorem stable_of_same {a : Au} {cl cl' : List Int} (f : Finer a cl cl') (h : ∀ s t, s < a.n → t < a.n → cv cl s = cv cl t → cv cl' s = cv cl' t) : Stable a cl := fun s t hs ht e => ((f.iff s t hs ht).1 (h s t hs ht e)).2
theorem stable_move {a : Au} {cl cl' : List Int} (W : WFA a) (f : Finer a cl cl') (st : Stable a cl) : Stable a cl' := fun s t hs ht e c hc => by
 have h1 := (f.iff s t hs ht).1 e
 have h2 := h1.2 c hc
 exact (f.iff _ _ (W.go_lt hs hc) (W.go_lt ht hc)).2 ⟨h2, fun d hd => st _ _ (W.go_lt hs hc) (W.go_lt ht hc) h2 d hd⟩
/-! Numbers as they come. -/
/-! Pairs that are alike: fewer and fewer. -/
def pairsN (n : Nat) : List (Nat × Nat) := (List.range n).flatMap fun s => (List.range n).map fun t => (s, t)
def alike (n : Nat) (cl : List Int) : Nat := (pairsN n).countP fun x => decide (cv cl x.1 = cv cl x.2)
/-! The least automaton. -/
/-- Rows of K numbers, one behind the other. -/
structure RowsE (K : Nat) (rows : List (List Int)) (es : List Nat) : Prop where
  len : ∀ r ∈ rows, r.length = K
  flat : rows.flatten = es.map fun v => ((v : Nat) : Int)
theorem flat_len2 {α : Type} {K : Nat} : ∀ {rows : List (List α)}, (∀ r ∈ rows, r.length = K) → rows.flatten.length = rows.length * K
 | [], _ => by simp
 | r :: rows, h => by
  rw [List.flatten_cons, List.length_append, flat_len2 fun x hx => h x (by simp [hx]), h r (by simp), List.length_cons, Nat.succ_mul, Nat.add_comm]
theorem flat_at {α : Type} {K : Nat} : ∀ {rows : List (List α)} {i c : Nat} {r : List α}, (∀ r ∈ rows, r.length = K) → rows[i]? = some r → c < K → rows.flatten[i * K + c]? = r[c]?
 | [], i, c, r, _, h, _ => by simp at h
 | x :: rows, 0, c, r, h, hr, hc => by
  injection hr with hr
  subst hr
  rw [Nat.zero_mul, Nat.zero_add, List.flatten_cons, List.getElem?_append_left (by rw [h x (by simp)]; exact hc)]
 | x :: rows, i + 1, c, r, h, hr, hc => by
  have hx := h x (by simp)
  rw [List.flatten_cons, Nat.succ_mul, List.getElem?_append_right (by omega), hx, show i * K + K + c - K = i * K + c by omega]
  exact flat_at (fun y hy => h y (by simp [hy])) hr hc
theorem RowsE.go {a : Au} {es : List Nat} (R : RowsE a.K a.nx es) {i c : Nat} (hi : i < a.nx.length) (hc : c < a.K) : es[i * a.K + c]? = some (a.go i c) ∧ ∃ r, a.nx[i]? = some r ∧ r[c]? = some ((a.go i c : Nat) : Int) := by
 obtain ⟨r, hr⟩ : ∃ r, a.nx[i]? = some r := ⟨_, List.getElem?_eq_getElem hi⟩
 have hl := R.len r (List.mem_of_getElem? hr)
 have h1 := flat_at R.len hr hc
 obtain ⟨z, hz⟩ : ∃ z, r[c]? = some z := ⟨_, List.getElem?_eq_getElem (by rw [hl]; exact hc)⟩
 rw [R.flat, List.getElem?_map, hz] at h1
 cases hv : es[i * a.K + c]? with
 | none => rw [hv] at h1; cases h1
 | some v =>
  rw [hv] at h1
  injection h1 with h1
  have e : a.go i c = v := by unfold Au.go; rw [hr, Option.getD_some, hz, Option.getD_some, ← h1]; simp
  exact ⟨by rw [e], r, hr, by rw [hz, e]; exact congrArg some h1.symm⟩
/-- An automaton made of states that were numbered as they came. -/
structure MadeA {α : Type} (δ : α → Nat → α) (s0 : α) (p : α → Bool) (l : List α) (m : Au) : Prop where
  ex : ∃ es, Expl δ s0 m.K l es ∧ RowsE m.K m.nx es
  len : m.nx.length = l.length
  acc : m.acc = l.map p
  tr : m.tr ≤ 6
  most : l.length ≤ 400
section
variable {α : Type} {δ : α → Nat → α} {s0 : α} {p : α → Bool} {l : List α} {m : Au}
theorem MadeA.n (H : MadeA δ s0 p l m) : m.n = l.length := by unfold Au.n; rw [H.acc, List.length_map]
theorem MadeA.go (H : MadeA δ s0 p l m) {i c : Nat} {s : α} (hs : l[i]? = some s) (hc : c < m.K) : l[m.go i c]? = some (δ s c) := by
 obtain ⟨es, E, R⟩ := H.ex
 have hi := (List.getElem?_eq_some_iff.1 hs).1
 obtain ⟨h1, _⟩ := R.go (a := m) (by rw [H.len]; exact hi) hc
 obtain ⟨s', b1, b2⟩ := E.step _ _ h1
 have e1 : (i * m.K + c) / m.K = i := by rw [Nat.mul_comm, Nat.mul_add_div (by omega), Nat.div_eq_of_lt hc]; rfl
 have e2 : (i * m.K + c) % m.K = c := by rw [Nat.mul_comm, Nat.mul_add_mod]; exact Nat.mod_eq_of_lt hc
 rw [e1, hs] at b1
 injection b1 with b1
 subst b1
 rw [e2] at b2
 exact b2
theorem MadeA.head (H : MadeA δ s0 p l m) : l[0]? = some s0 := by obtain ⟨es, E, R⟩ := H.ex; exact E.head
theorem MadeA.nodup (H : MadeA δ s0 p l m) : l.Nodup := by obtain ⟨es, E, R⟩ := H.ex; exact E.nodup
theorem MadeA.wf (H : MadeA δ s0 p l m) : WFA m := by
 have hp := (List.getElem?_eq_some_iff.1 H.head).1
 obtain ⟨es, E, R⟩ := H.ex
 refine ⟨H.tr, by rw [H.n]; exact hp, by rw [H.n]; exact H.most, by rw [H.n]; exact H.len, fun r hr => ⟨R.len r hr, fun z hz => ?_⟩⟩
 obtain ⟨v, hv, rfl⟩ : ∃ v ∈ es, ((v : Nat) : Int) = z := by
  have : z ∈ m.nx.flatten := List.mem_flatten.2 ⟨r, hr, hz⟩
  rw [R.flat] at this
  exact List.mem_map.1 this
 obtain ⟨q, hq⟩ := List.getElem?_of_mem hv
 have := E.lt hq
 rw [H.n]
 omega
theorem MadeA.run (H : MadeA δ s0 p l m) (w : List Nat) : ∀ {i : Nat} {s : α}, l[i]? = some s → LetK m.K w → l[m.run i w]? = some (w.foldl δ s) := by
 induction w with
 | nil => intro i s hs _; exact hs
 | cons c w ih => intro i s hs hw; exact ih (H.go hs (hw c (by simp))) fun x hx => hw x (by simp [hx])
theorem MadeA.ok (H : MadeA δ s0 p l m) {i : Nat} {s : α} (hs : l[i]? = some s) : m.ok i = p s := by
 unfold Au.ok
 rw [H.acc, List.getElem?_map, hs]; rfl
theorem MadeA.lang (H : MadeA δ s0 p l m) {w : List Nat} (hw : LetK m.K w) : m.ok (m.run 0 w) = p (w.foldl δ s0) := H.ok (H.run w H.head hw)
theorem MadeA.first (H : MadeA δ s0 p l m) : ∀ k, 0 < k → k < m.n → ∃ i c, i < k ∧ c < m.K ∧ m.go i c = k ∧ ∀ i' c', (i' < i ∨ i' = i ∧ c' < c) → c' < m.K → m.go i' c' < k := by
 intro k h1 h2
 rw [H.n] at h2
 have hln := H.len
 obtain ⟨es, E, R⟩ := H.ex
 obtain ⟨q, a1, a2, a3⟩ := E.first k h1 h2
 have hK : 0 < m.K := Nat.two_pow_pos _
 have hq : q / m.K * m.K + q % m.K = q := Nat.div_add_mod' q m.K
 have hr := Nat.mod_lt q hK
 have hg := (R.go (a := m) (i := q / m.K) (c := q % m.K) (by omega) hr).1
 rw [hq, a2] at hg
 injection hg with hg
 refine ⟨q / m.K, q % m.K, a1, hr, hg.symm, fun i' c' hlt hc' => ?_⟩
 have hi' : i' < m.nx.length := by rcases hlt with h | h <;> omega
 have hg' := (R.go (a := m) hi' hc').1
 refine a3 _ _ ?_ hg'
 rcases hlt with h | ⟨rfl, h⟩
 ·have := Nat.mul_le_mul_right m.K (show i' + 1 ≤ q / m.K from h)
  rw [Nat.succ_mul] at this
  omega
 ·omega
end
/-- A state of a class. -/
noncomputable def repN (n : Nat) (cl : List Int) (k : Int) : Nat := ((List.range n).find? fun s => decide (cv cl s = k)).getD 0
theorem repN_at {n : Nat} {cl : List Int} {s : Nat} (hs : s < n) : repN n cl (cv cl s) < n ∧ cv cl (repN n cl (cv cl s)) = cv cl s := by
 unfold repN
 cases h : (List.range n).find? fun t => decide (cv cl t = cv cl s) with
 | none =>
  have := List.find?_eq_none.1 h s (List.mem_range.2 hs)
  simp at this
 | some t =>
  have h1 := List.find?_some h
  have h2 := List.mem_of_find?_eq_some h
  exact ⟨List.mem_range.1 h2, of_decide_eq_true h1⟩
noncomputable def clGo (a : Au) (cl : List Int) (k : Int) (c : Nat) : Int := cv cl (a.go (repN a.n cl k) c)
theorem clGo_at {a : Au} {cl : List Int} (st : Stable a cl) {s c : Nat} (hs : s < a.n) (hc : c < a.K) : clGo a cl (cv cl s) c = cv cl (a.go s c) := by
 obtain ⟨h1, h2⟩ := repN_at (cl := cl) hs
 exact st _ _ h1 hs h2 c hc
theorem ClsOk.stable {a : Au} {cl : List Int} (W : WFA a) (h : ClsOk a cl) : Stable a cl := fun s t hs ht e c hc => (h.iff _ _ (W.go_lt hs hc) (W.go_lt ht hc)).2 (((h.iff s t hs ht).1 e).go hc)
noncomputable def clOk (a : Au) (cl : List Int) (k : Int) : Bool := a.ok (repN a.n cl k)
theorem clOk_at {a : Au} {cl : List Int} (h : ClsOk a cl) {s : Nat} (hs : s < a.n) : clOk a cl (cv cl s) = a.ok s := by
 obtain ⟨h1, h2⟩ := repN_at (cl := cl) hs
 exact (h.iff _ _ h1 hs).1 h2 [] fun _ h => by cases h
theorem min_canon {a m : Au} {cl l : List Int} (W : WFA a) (h : ClsOk a cl) (ht : m.tr = a.tr) (H : MadeA (clGo a cl) (cv cl 0) (clOk a cl) l m) : Canon m ∧ Like m a 0 0 := by
 have hK : m.K = a.K := by unfold Au.K; rw [ht]
 have hst := h.stable W
 -- all classes are classes of states
 have hin : ∀ (k : Nat) (x : Int), l[k]? = some x → ∃ s, s < a.n ∧ x = cv cl s := by
  obtain ⟨es, E, R⟩ := H.ex
  exact E.all (Q := fun x => ∃ s, s < a.n ∧ x = cv cl s) ⟨0, W.pos, rfl⟩ fun x c hx hc => by
   obtain ⟨s, hs, rfl⟩ := hx
   have hc := hc (Nat.two_pow_pos _)
   exact ⟨a.go s c, W.go_lt hs (hK ▸ hc), clGo_at hst hs (hK ▸ hc)⟩
 have hrun : ∀ (w : List Nat) (s : Nat), s < a.n → LetK m.K w → w.foldl (clGo a cl) (cv cl s) = cv cl (a.run s w) := by
  intro w
  induction w with
  | nil => intro s _ _; rfl
  | cons c w ih =>
   intro s hs hw
   have hc : c < a.K := hK ▸ hw c (by simp)
   show w.foldl (clGo a cl) (clGo a cl (cv cl s) c) = cv cl (a.run (a.go s c) w)
   rw [clGo_at hst hs hc]
   exact ih _ (W.go_lt hs hc) fun x hx => hw x (by simp [hx])
 have hlike : ∀ (k s : Nat), l[k]? = some (cv cl s) → s < a.n → Like m a k s := fun k s hk hs w hw => by
  rw [H.ok (H.run w hk hw), hrun w s hs hw]
  exact clOk_at h (W.run_lt w hs (hK ▸ hw))
 refine ⟨⟨H.wf, fun s t hs ht hst' => ?_, H.first⟩, hlike 0 0 H.head W.pos⟩
 rw [H.n] at hs ht
 obtain ⟨x, hx⟩ : ∃ x, l[s]? = some x := ⟨_, List.getElem?_eq_getElem hs⟩
 obtain ⟨y, hy⟩ : ∃ y, l[t]? = some y := ⟨_, List.getElem?_eq_getElem ht⟩
 obtain ⟨u, hu, rfl⟩ := hin s x hx
 obtain ⟨v, hv, rfl⟩ := hin t y hy
 have e := (h.iff u v hu hv).2 fun w hw => by
  rw [← hlike s u hx hu w (hK ▸ hw), ← hlike t v hy hv w (hK ▸ hw)]
  exact hst' w (hK ▸ hw)
 exact (List.getElem?_inj hs H.nodup).1 (by rw [hx, hy, e])
end Go.Proofs.YtiknomepbklibaaGreatDoor
