/-
  Pools in memory.
-/
import Derived.Test.YtiknomepbklibaaDoorPcPoolX
import Derived.Test.YtiknomepbklibaaDoorPcFill
namespace Go.Proofs.YtiknomepbklibaaDoor
open Go Go.RowKit
set_option linter.unusedVariables false
set_option maxRecDepth 100000

/-- What a call may change. -/
structure ChgF (F : Nat → Prop) (st st' : St) : Prop where
  fresh : Fresh st'
  le : st.n ≤ st'.n
  old : ∀ c, c < st.n → ¬ F c → st'.h.get c = st.h.get c
theorem AccX.nodup {A : Rows1} {ks : AV} {vs : List AV} (h : AccX A ks vs) : (A.map Prod.fst).Nodup := by cases h <;> simp
/-- A row of slices grows. -/
theorem Mem.accX1 {P : Program} {h0 : Hp} {n0 : Nat} {X : List Nat} {st : St} {L A B : Rows1} {ks : AV} {vs : List AV} (hM : Mem h0 n0 X st (L ++ (A ++ B))) (hA : AccX A ks vs) {t e : TypeId} (T : SlT P t e 1) {k2 c2 m2 : Nat} {v : AV} (hk : (L ++ (A ++ B))[k2]? = some (c2, m2, [v])) (hb : vs.length + 1 ≤ 1000000000) :
    ∃ ks' A' st1, appendA P [t, t] ks (.sl c2 m2 0 1 1) st = some (ks', st1) ∧ AccX A' ks' (vs ++ [v]) ∧ Mem h0 n0 X st1 (L ++ (A' ++ B)) ∧ ∀ c m l, (c, m, l) ∈ A' → (∃ m l, (c, m, l) ∈ A) ∨ st.n ≤ c := by
  have hr := (hM.row1 hk).rowV
  cases hA with
  | none =>
    have h1 := append_nil (st := st) T (n := 1) (z2 := 1) (off2 := 0) hr (by simp) (by decide) (by decide)
    refine ⟨_, [(st.n, 0, [v])], _, h1, ?_, ?_, fun c m l hm => ?_⟩
    · exact .own (vs := [v]) (by simp)
    · have h2 := hM.alloc [v]
      have h3 := h2.perm (M' := L ++ ([(st.n, 0, [v])] ++ B)) (by simpa using (List.perm_middle (l₁ := L) (l₂ := B) (a := (st.n, 0, [v]))).symm)
      simpa using h3
    · simp at hm; exact .inr (by omega)
  | own hb' =>
    rename_i c m
    obtain ⟨m', st1, h1, h2, _⟩ := hM.append (P := P) T (k := L.length) (c := c) (m := m) (len := vs.length) (c2 := c2) (m2 := m2) (off2 := 0) (n := 1) (z2 := 1) (l := vs) (l2 := [v]) (get_mid L B (c, m, vs)) (by simp) hr (by simp) (by decide) hb
    rw [set_mid] at h2
    refine ⟨_, [(c, m', vs ++ [v])], st1, h1, ?_, by simpa using h2, fun c' m2 l hm => ?_⟩
    · have := AccX.own (c := c) (m := m') (vs := vs ++ [v]) (by simpa using hb)
      rw [List.length_append] at this
      exact this
    · simp at hm; exact .inl ⟨m, vs, by simp [hm.1]⟩
section
variable {P : Program} {G : Env} {N : Nat} {h0 : Hp} {n0 : Nat} {X : List Nat} {st : St} {L A B : Rows1} {T : Tr AV} {ops rest : List Oper} {K : List (Nat × AV)} {R : Tr AV → St → Prop} {d : Nat} {ty : TypeId} {pos : String} {af : Array Edge}
theorem wr_accX {x y : Operand} {t e : TypeId} {c2 m2 k2 : Nat} {ks v : AV} {vs : List AV} (hK : KnT K T) (hM : Mem h0 n0 X st (L ++ (A ++ B))) (hA : AccX A ks vs) (S : SlT P t e 1) (hx : opK G K x = some ks) (hy : opK G K y = some (.sl c2 m2 0 1 1)) (hk : (L ++ (A ++ B))[k2]? = some (c2, m2, [v])) (hb : vs.length + 1 ≤ 1000000000) (hN : Nat.ble (d + 1) N = true)
  (hn : ∀ (ks' : AV) A' T' st', KnT ((d, ks') :: K) T' → AccX A' ks' (vs ++ [v]) → (∀ c m l, (c, m, l) ∈ A' → (∃ m l, (c, m, l) ∈ A) ∨ st.n ≤ c) → Mem h0 n0 X st' (L ++ (A' ++ B)) → WR P G N ops rest R T' st') : WR P G N ops (⟨some d, .call { callee := .builtin .append, args := #[x, y], argTypes := #[t, t] }, ty, pos, af, none⟩ :: rest) R T st := by
 obtain ⟨ks', A', st1, h1, h2, h3, h4⟩ := hM.accX1 hA S hk hb
 exact wr_op hK (os_append rfl hx hy h1) (Nat.le_of_ble_eq_true hN) fun T' hT' => hn ks' A' T' st1 hT' h2 h4 h3
end
end Go.Proofs.YtiknomepbklibaaDoor
