/-
  Sets in memory: their rows, the map of their numbers; rules for maps.
-/
import Derived.Test.YtiknomepbklibaaDoorPcPoolW
namespace Go.Proofs.YtiknomepbklibaaDoor
open Go Go.RowKit
set_option linter.unusedVariables false
set_option maxRecDepth 100000

theorem RdR.frame {h h' : Hp} {z : Nat} {ls : List (List AV)} {v : AV} (r : RdR h [] z ls v) (e : ∀ c m o n y, v = .sl c m o n y → h' c = h c) : RdR h' [] z ls v :=
 ⟨r.len, r.bnd, r.cell, fun i cs hi => by
  obtain ⟨c, m, off, cells, h1, h2, ⟨ro, e1, vs, ms, h3, h4⟩, h5⟩ := r.at_ i cs hi
  exact ⟨c, m, off, cells, h1, h2, ⟨ro, e1, vs, ms, by rw [e c m off _ _ h1]; exact h3, h4⟩, h5⟩, fun c m off n z' e' => by
  obtain ⟨h1, cells, ⟨ro, e1, vs, ms, h3, h4⟩, h5⟩ := r.alive c m off n z' e'
  exact ⟨h1, cells, ⟨ro, e1, vs, ms, by rw [e c m off n z' e']; exact h3, h4⟩, h5⟩⟩
theorem Row1.frame {h h' : Hp} {c m : Nat} {l : List AV} (r : Row1 h c m l) (e : h' c = h c) : Row1 h' c m l := by
 obtain ⟨vs, ms, h1, h2⟩ := r
 exact ⟨vs, ms, by rw [e]; exact h1, h2⟩
/-- A row of slices. -/
inductive AccX : Rows1 → AV → List AV → Prop
  | none : AccX [] .nils []
  | own {c m : Nat} {vs : List AV} (hb : vs.length ≤ 1000000000) : AccX [(c, m, vs)] (.sl c m 0 vs.length 1) vs
theorem AccX.len {A : Rows1} {ks : AV} {vs : List AV} (h : AccX A ks vs) : slLen ks = some vs.length := by cases h <;> rfl
theorem AccX.cell {A : Rows1} {ks : AV} {vs : List AV} (h : AccX A ks vs) : isCell ks = true := by cases h <;> rfl
theorem AccX.rd {A : Rows1} {ks : AV} {vs : List AV} (h : AccX A ks vs) {hp : Hp} (hr : ∀ c m l, (c, m, l) ∈ A → Row1 hp c m l) : RdR hp [] 1 (vs.map fun v => [v]) ks := by
 cases h with
 | none => exact .nil _ _ _
 | own hb =>
  rename_i c m
  have h1 := hr c m vs (by simp)
  have e : (vs.map fun v => [v]).flatten = vs := by
   clear h1 hr hb
   induction vs with
   | nil => rfl
   | cons v vs ih => rw [List.map_cons, List.flatten_cons, ih]; rfl
  have := RdR.own (X := []) (z := 1) (ls := vs.map fun v => [v]) (c := c) (m := m) (by rw [e]; exact h1) (by simp) (by simp) (by rw [List.length_map]; omega)
  rw [List.length_map] at this
  exact this
/-! Numbers of sets. -/
def prE (e : AV × AV × Nat) : AV × AV := (e.1, e.2.1)
/-! Rules for maps. -/
section
variable {G : Env} {K : List (Nat × AV)} {st : St} {cm n : Nat} {es : List (AV × AV × Nat)} {L : List (List Int)} {s : List Int} {m k x : Operand}
end
section
variable {G : Env} {N : Nat} {ops : List Oper} {T : Tr AV} {K : List (Nat × AV)} {st : St} {sn : List St} {r : List (Nat × Nat)} {R : Tr AV → St → Prop} {i : Nat} {ty : TypeId} {pos : String} {af : Array Edge} {cm n : Nat} {es : List (AV × AV × Nat)} {L : List (List Int)} {s : List Int} {m k x : Operand} {z : Int}
end
/-! Slices of numbers' rows. -/
end Go.Proofs.YtiknomepbklibaaDoor
