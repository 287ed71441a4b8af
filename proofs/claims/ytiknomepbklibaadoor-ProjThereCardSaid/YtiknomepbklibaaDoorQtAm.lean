/-
  States that are numbered as they come, plainly.
-/
import Derived.Test.YtiknomepbklibaaDoorQtKit
section
namespace Go.Proofs.YtiknomepbklibaaDoor
set_option linter.unusedVariables false

/-- What was numbered: states by number; next states, one behind the other, K of each state. -/
structure Expl {α : Type} (δ : α → Nat → α) (s0 : α) (K : Nat) (l : List α) (es : List Nat) : Prop where
  head : l[0]? = some s0
  nodup : l.Nodup
  step : ∀ (p v : Nat), es[p]? = some v → ∃ s, l[p / K]? = some s ∧ l[v]? = some (δ s (p % K))
  first : ∀ k, 0 < k → k < l.length → ∃ p : Nat, p / K < k ∧ es[p]? = some k ∧ ∀ (q v : Nat), q < p → es[q]? = some v → v < k
section
variable {α : Type} {δ : α → Nat → α} {s0 : α} {K : Nat} {l : List α} {es : List Nat}
theorem Expl.start (δ : α → Nat → α) (s0 : α) (K : Nat) : Expl δ s0 K [s0] [] :=
 ⟨rfl, by simp, fun p v h => by simp at h, fun k h1 h2 => by simp at h2; omega⟩
theorem Expl.lt (E : Expl δ s0 K l es) {p v : Nat} (h : es[p]? = some v) : v < l.length := by
 obtain ⟨s, _, h2⟩ := E.step p v h
 exact (List.getElem?_eq_some_iff.1 h2).1
/-- A next state that is there. -/
theorem Expl.old (E : Expl δ s0 K l es) {s : α} {j : Nat} (hs : l[es.length / K]? = some s) (hj : l[j]? = some (δ s (es.length % K))) : Expl δ s0 K l (es ++ [j]) := by
  refine ⟨E.head, E.nodup, fun p v h => ?_, fun k h1 h2 => ?_⟩
  · by_cases hp : p < es.length
    · rw [List.getElem?_append_left hp] at h
      exact E.step p v h
    · have hlt := (List.getElem?_eq_some_iff.1 h).1
      rw [List.length_append, List.length_singleton] at hlt
      have hp : p = es.length := by omega
      subst hp
      rw [List.getElem?_append_right (Nat.le_refl _), Nat.sub_self] at h
      injection h with h
      subst h
      exact ⟨s, hs, hj⟩
  · obtain ⟨p, a1, a2, a3⟩ := E.first k h1 h2
    have hp := (List.getElem?_eq_some_iff.1 a2).1
    refine ⟨p, a1, by rw [List.getElem?_append_left hp]; exact a2, fun q v hq hv => ?_⟩
    rw [List.getElem?_append_left (by omega)] at hv
    exact a3 q v hq hv
/-- A new one. -/
theorem Expl.new (E : Expl δ s0 K l es) {s : α} (hs : l[es.length / K]? = some s) (hn : δ s (es.length % K) ∉ l) : Expl δ s0 K (l ++ [δ s (es.length % K)]) (es ++ [l.length]) := by
  have hi := (List.getElem?_eq_some_iff.1 hs).1
  refine ⟨?_, List.nodup_append.2 ⟨E.nodup, by simp, fun a ha b hb e => ?_⟩, fun p v h => ?_, fun k h1 h2 => ?_⟩
  · rw [List.getElem?_append_left (Nat.lt_of_le_of_lt (Nat.zero_le _) hi)]; exact E.head
  · rw [List.mem_singleton] at hb
    subst hb e
    exact hn ha
  · by_cases hp : p < es.length
    · rw [List.getElem?_append_left hp] at h
      obtain ⟨s', b1, b2⟩ := E.step p v h
      refine ⟨s', ?_, ?_⟩
      · rw [List.getElem?_append_left (List.getElem?_eq_some_iff.1 b1).1]; exact b1
      · rw [List.getElem?_append_left (List.getElem?_eq_some_iff.1 b2).1]; exact b2
    · have hlt := (List.getElem?_eq_some_iff.1 h).1
      rw [List.length_append, List.length_singleton] at hlt
      have hp : p = es.length := by omega
      subst hp
      rw [List.getElem?_append_right (Nat.le_refl _), Nat.sub_self] at h
      injection h with h
      subst h
      refine ⟨s, by rw [List.getElem?_append_left hi]; exact hs, by simp⟩
  · rw [List.length_append, List.length_singleton] at h2
    by_cases hk : k < l.length
    · obtain ⟨p, a1, a2, a3⟩ := E.first k h1 hk
      have hp := (List.getElem?_eq_some_iff.1 a2).1
      refine ⟨p, a1, by rw [List.getElem?_append_left hp]; exact a2, fun q v hq hv => ?_⟩
      rw [List.getElem?_append_left (by omega)] at hv
      exact a3 q v hq hv
    · have hk : k = l.length := by omega
      subst hk
      refine ⟨es.length, hi, by simp, fun q v hq hv => ?_⟩
      rw [List.getElem?_append_left hq] at hv
      exact E.lt hv
/-- Whatever holds of the first one and goes on to next ones holds of all. -/
theorem Expl.all (E : Expl δ s0 K l es) {Q : α → Prop} (h0 : Q s0) (hs : ∀ s c, Q s → (0 < K → c < K) → Q (δ s c)) : ∀ (k : Nat) (s : α), l[k]? = some s → Q s := by
  intro k
  induction k using Nat.strongRecOn with
  | _ k ih =>
    intro s hk
    by_cases h : k = 0
    · subst h
      rw [E.head] at hk
      injection hk with hk
      exact hk ▸ h0
    · obtain ⟨p, a1, a2, _⟩ := E.first k (by omega) (List.getElem?_eq_some_iff.1 hk).1
      obtain ⟨s', b1, b2⟩ := E.step p k a2
      rw [hk] at b2
      injection b2 with b2
      subst b2
      exact hs s' _ (ih _ a1 s' b1) fun hK => Nat.mod_lt _ hK
end
/-- Numbers of a list without two alike, all among those of another: it is not longer. -/
theorem nodup_le {α : Type} : ∀ {a b : List α}, a.Nodup → (∀ x ∈ a, x ∈ b) → a.length ≤ b.length
  | [], b, _, _ => by simp
  | x :: a, b, h, hs => by
    obtain ⟨b1, b2, rfl⟩ := List.append_of_mem (hs x (by simp))
    have h' := List.nodup_cons.1 h
    have := nodup_le (b := b1 ++ b2) h'.2 fun y hy => by
      have := hs y (by simp [hy])
      simp only [List.mem_append, List.mem_cons] at this ⊢
      rcases this with h1 | h1 | h1
      · exact .inl h1
      · subst h1; exact absurd hy h'.1
      · exact .inr h1
    simp only [List.length_append, List.length_cons] at this ⊢
    omega
end Go.Proofs.YtiknomepbklibaaDoor
end
section
namespace Go.Proofs.YtiknomepbklibaaDoor
set_option linter.unusedVariables false

structure Au where
 tr : Nat
 acc : List Bool
 nx : List (List Int)
abbrev Au.n (a : Au) : Nat := a.acc.length
abbrev Au.K (a : Au) : Nat := 2 ^ a.tr
/-- A state's next one; does it accept? -/
def Au.go (a : Au) (s c : Nat) : Nat := (((a.nx[s]?).getD [])[c]?.getD 0).toNat
def Au.ok (a : Au) (s : Nat) : Bool := (a.acc[s]?).getD false
def Au.run (a : Au) (s : Nat) (w : List Nat) : Nat := w.foldl a.go s
/-- Letters of so many tracks. -/
def LetK (K : Nat) (w : List Nat) : Prop := ∀ c ∈ w, c < K
structure WFA (a : Au) : Prop where
 tr : a.tr ≤ 6
 pos : 1 ≤ a.n
 most : a.n ≤ 400
 len : a.nx.length = a.n
 row : ∀ r ∈ a.nx, r.length = a.K ∧ ∀ z ∈ r, 0 ≤ z ∧ z < a.n
theorem Au.run_app (a : Au) (s : Nat) (v w : List Nat) : a.run s (v ++ w) = a.run (a.run s v) w := List.foldl_append ..
theorem WFA.at_ {a : Au} (W : WFA a) {s c : Nat} (hs : s < a.n) (hc : c < a.K) : ∃ r z, a.nx[s]? = some r ∧ r[c]? = some z ∧ z = ((a.go s c : Nat) : Int) ∧ a.go s c < a.n ∧ r.length = a.K := by
 obtain ⟨r, hr⟩ : ∃ r, a.nx[s]? = some r := ⟨_, List.getElem?_eq_getElem (by rw [W.len]; exact hs)⟩
 obtain ⟨h1, h2⟩ := W.row r (List.mem_of_getElem? hr)
 obtain ⟨z, hz⟩ : ∃ z, r[c]? = some z := ⟨_, List.getElem?_eq_getElem (by rw [h1]; exact hc)⟩
 have h3 := h2 z (List.mem_of_getElem? hz)
 have e : a.go s c = z.toNat := by unfold Au.go; rw [hr, Option.getD_some, hz, Option.getD_some]
 exact ⟨r, z, hr, hz, by omega, by omega, h1⟩
theorem WFA.go_lt {a : Au} (W : WFA a) {s c : Nat} (hs : s < a.n) (hc : c < a.K) : a.go s c < a.n := by
 obtain ⟨_, _, _, _, _, h, _⟩ := W.at_ hs hc
 exact h
theorem WFA.run_lt {a : Au} (W : WFA a) : ∀ (w : List Nat) {s : Nat}, s < a.n → LetK a.K w → a.run s w < a.n
 | [], s, hs, _ => hs
 | c :: w, s, hs, h => W.run_lt w (W.go_lt hs (h c (by simp))) fun x hx => h x (by simp [hx])
end Go.Proofs.YtiknomepbklibaaDoor
end
