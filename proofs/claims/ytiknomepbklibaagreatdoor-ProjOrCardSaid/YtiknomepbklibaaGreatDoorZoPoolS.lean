/-
  Pools in memory.
-/
import Derived.Test.YtiknomepbklibaaGreatDoorZoFill
namespace Go.Proofs.YtiknomepbklibaaGreatDoor
open Go Go.RowKit
set_option linter.unusedVariables false
set_option maxRecDepth 100000

/-- A row there is the same one. -/
def RowSame (h h' : Hp) (c : Nat) : Prop := ∀ ro ms, h c = some (.row ro ms) → h' c = h c
/-- Rows of sets: what they are made of lies in places that are said. -/
structure SetsAt (h : Hp) (F : Nat → Prop) (cp : Nat) (A : Rows1) (ks : AV) (vs : List AV) (L : List (List Int)) : Prop where
  acc : AccX A ks vs
  row : ∀ c m l, (c, m, l) ∈ A → Row1 h c m l ∧ F c ∧ c ≠ cp
  ln : vs.length = L.length
  inn : ∀ (i : Nat) (s : List Int), L[i]? = some s → ∃ v, vs[i]? = some v ∧ RdR h [] 1 (zC s) v ∧ In64 s ∧ (v = .nils ∨ ∃ c m o n, v = .sl c m o n 1) ∧ ∀ c m o n y, v = .sl c m o n y → F c ∧ c ≠ cp ∧ ∀ m' l', (c, m', l') ∉ A
theorem SetsAt.frame {h h' : Hp} {F : Nat → Prop} {cp : Nat} {A : Rows1} {ks : AV} {vs : List AV} {L : List (List Int)} (H : SetsAt h F cp A ks vs L) (e : ∀ c, F c → h' c = h c) : SetsAt h' F cp A ks vs L :=
 ⟨H.acc, fun c m l hm => by
  obtain ⟨h1, h2, h3⟩ := H.row c m l hm
  exact ⟨h1.frame (e c h2), h2, h3⟩, H.ln, fun i s hi => by
  obtain ⟨v, h1, h2, h3, h4, h5⟩ := H.inn i s hi
  exact ⟨v, h1, h2.frame fun c m o n y e' => e c (h5 c m o n y e').1, h3, h4, h5⟩⟩
theorem SetsAt.more {h : Hp} {F F' : Nat → Prop} {cp : Nat} {A : Rows1} {ks : AV} {vs : List AV} {L : List (List Int)} (H : SetsAt h F cp A ks vs L) (e : ∀ c, F c → F' c) : SetsAt h F' cp A ks vs L :=
 ⟨H.acc, fun c m l hm => by
  obtain ⟨h1, h2, h3⟩ := H.row c m l hm
  exact ⟨h1, e c h2, h3⟩, H.ln, fun i s hi => by
  obtain ⟨v, h1, h2, h3, h4, h5⟩ := H.inn i s hi
  exact ⟨v, h1, h2, h3, h4, fun c m o n y e' => by
   obtain ⟨k1, k2⟩ := h5 c m o n y e'
   exact ⟨e c k1, k2⟩⟩⟩
theorem SetsAt.rd {h : Hp} {F : Nat → Prop} {cp : Nat} {A : Rows1} {ks : AV} {vs : List AV} {L : List (List Int)} (H : SetsAt h F cp A ks vs L) : RdR h [] 1 (vs.map fun v => [v]) ks := H.acc.rd fun c m l hm => (H.row c m l hm).1
theorem SetsAt.len {h : Hp} {F : Nat → Prop} {cp : Nat} {A : Rows1} {ks : AV} {vs : List AV} {L : List (List Int)} (H : SetsAt h F cp A ks vs L) : slLen ks = some L.length := by rw [← H.ln]; exact H.acc.len
/-- One set more. -/
theorem SetsAt.snoc {h h' : Hp} {F F' : Nat → Prop} {cp : Nat} {A A' : Rows1} {ks ks' : AV} {vs : List AV} {L : List (List Int)} (H : SetsAt h F cp A ks vs L) {v : AV} {s : List Int} (hA : AccX A' ks' (vs ++ [v])) (hr : ∀ c m l, (c, m, l) ∈ A' → Row1 h' c m l ∧ F' c ∧ c ≠ cp ∧ ((∃ m l, (c, m, l) ∈ A) ∨ ¬ F c)) (hF : ∀ c, F c → F' c)
    (ho : ∀ c, F c → c ≠ cp → (∀ m l, (c, m, l) ∉ A) → RowSame h h' c) (hv : RdR h' [] 1 (zC s) v) (hs : In64 s) (hn : v = .nils ∨ ∃ c m o n, v = .sl c m o n 1) (hc : ∀ c m o n y, v = .sl c m o n y → F' c ∧ c ≠ cp ∧ ∀ m' l', (c, m', l') ∉ A') : SetsAt h' F' cp A' ks' (vs ++ [v]) (L ++ [s]) := by
  refine ⟨hA, fun c m l hm => ?_, by rw [List.length_append, List.length_append, H.ln]; rfl, fun i x hi => ?_⟩
  · obtain ⟨h1, h2, h3, _⟩ := hr c m l hm
    exact ⟨h1, h2, h3⟩
  · by_cases hl : i < L.length
    · rw [List.getElem?_append_left hl] at hi
      obtain ⟨u, h1, h2, h3, h4, h5⟩ := H.inn i x hi
      refine ⟨u, by rw [List.getElem?_append_left (by rw [H.ln]; exact hl)]; exact h1, ?_, h3, h4, fun c m o n y e => ?_⟩
      · exact h2.frame fun c m o n y e => by
          obtain ⟨k1, k2, k3⟩ := h5 c m o n y e
          obtain ⟨_, cells, ⟨ro, e1, vs', ms, h6, _⟩, _⟩ := h2.alive c m o n y e
          exact ho c k1 k2 k3 ro ms h6
      · obtain ⟨k1, k2, k3⟩ := h5 c m o n y e
        refine ⟨hF c k1, k2, fun m' l' hm => ?_⟩
        obtain ⟨_, _, _, h6⟩ := hr c m' l' hm
        rcases h6 with ⟨m2, l2, h6⟩ | h6
        · exact k3 m2 l2 h6
        · exact h6 k1
    · rw [List.getElem?_append_right (by omega)] at hi
      have h0 : i - L.length = 0 := by
        by_cases h : i - L.length = 0
        · exact h
        · rw [List.getElem?_eq_none (by simp; omega)] at hi; cases hi
      rw [h0] at hi
      injection hi with hi
      subst hi
      exact ⟨v, by rw [List.getElem?_append_right (by rw [H.ln]; omega), H.ln, h0]; rfl, hv, hs, hn, hc⟩
/-- A Pool. -/
def PoolAt (h : Hp) (F : Nat → Prop) (cp : Nat) (L : List (List Int)) : Prop :=
  ∃ ks cm es k A vs, Row1 h cp 0 [ks, .mp cm] ∧ F cp ∧ F cm ∧ h cm = some (.map es k) ∧ es.map prE = entsF 0 L ∧ SetsAt h F cp A ks vs L ∧ L.Nodup
theorem PoolAt.frame {h h' : Hp} {F : Nat → Prop} {cp : Nat} {L : List (List Int)} (H : PoolAt h F cp L) (e : ∀ c, F c → h' c = h c) : PoolAt h' F cp L := by
 obtain ⟨ks, cm, es, k, A, vs, h1, h2, h3, h4, h5, h6, h7⟩ := H
 exact ⟨ks, cm, es, k, A, vs, h1.frame (e cp h2), h2, h3, by rw [e cm h3]; exact h4, h5, h6.frame e, h7⟩
/-- What a call may change. -/
structure ChgF (F : Nat → Prop) (st st' : St) : Prop where
  fresh : Fresh st'
  le : st.n ≤ st'.n
  old : ∀ c, c < st.n → ¬ F c → st'.h.get c = st.h.get c
theorem Qt.chgF {st st' : St} (q : Qt st st') (F : Nat → Prop) : ChgF F st st' := ⟨q.fresh, q.le, fun c hc _ => q.old c hc⟩
/-- Old rows taken in beside those that are one's own. -/
theorem Mem.withOld {st st1 : St} {M0 : Rows1} (hf : Fresh st) (hM : Mem st.h.get st.n [] st1 M0) (Rw : Rows1) (hR : ∀ c m l, (c, m, l) ∈ Rw → Row1 st.h.get c m l) (hn : (Rw.map Prod.fst).Nodup) : Mem st1.h.get st1.n ((Rw ++ M0).map Prod.fst) st1 (Rw ++ M0) := by
  refine Mem.startX hM.fresh (Rw ++ M0) (fun c m l hm => ?_) ?_
  · rcases List.mem_append.1 hm with hm | hm
    · exact (hR c m l hm).chg hf hM.chg (by simp)
    · exact hM.row c m l hm
  · rw [List.map_append]
    refine List.nodup_append.2 ⟨hn, hM.nodup, fun a ha b hb e => ?_⟩
    subst e
    obtain ⟨⟨c, m, l⟩, h1, h2⟩ := List.mem_map.1 ha
    obtain ⟨⟨c', m', l'⟩, h3, h4⟩ := List.mem_map.1 hb
    have k1 := (hR c m l h1).lt hf
    simp only at h2 h4
    rcases hM.own c' m' l' h3 with k2 | k2
    · omega
    · cases k2
theorem AccX.nodup {A : Rows1} {ks : AV} {vs : List AV} (h : AccX A ks vs) : (A.map Prod.fst).Nodup := by cases h <;> simp
/-- A map that is written, what lies in rows stays. -/
theorem Mem.mapped {h0 : Hp} {n0 : Nat} {X : List Nat} {st : St} {M : Rows1} (hM : Mem h0 n0 X st M) {cm n : Nat} {es : List (AV × AV × Nat)} (hc : st.h.get cm = some (.map es n)) (s : List Int) (z : Int) :
    Mem (mapSt st cm n es s z).h.get (mapSt st cm n es s z).n (M.map Prod.fst) (mapSt st cm n es s z) M ∧ ChgF (fun c => c = cm) st (mapSt st cm n es s z) := by
  have hlt : cm < st.n := Nat.lt_of_not_le fun hle => by rw [hM.fresh cm hle] at hc; cases hc
  have hf := mapSt_fresh hM.fresh hlt n es s z
  refine ⟨Mem.startX hf M (fun c m l hm => ?_) hM.nodup, hf, Nat.le_refl _, fun c hc' hne => mapSt_other _ _ _ _ _ hne⟩
  have hr := hM.row c m l hm
  exact Row1.frame hr (mapSt_other _ _ _ _ _ (Row1.noMap hr hc))
/-- A row of slices grows. -/
theorem Mem.accX1 {P : Program} {h0 : Hp} {n0 : Nat} {X : List Nat} {st : St} {L A B : Rows1} {ks : AV} {vs : List AV} (hM : Mem h0 n0 X st (L ++ (A ++ B))) (hA : AccX A ks vs) {t e : TypeId} (T : SlT P t e 1) {k2 c2 m2 : Nat} {v : AV} (hk : (L ++ (A ++ B))[k2]? = some (c2, m2, [v])) (hb : vs.length + 1 ≤ 1000000000) :
    ∃ ks' A' st1, appendA P [t, t] ks (.sl c2 m2 0 1 1) st = some (ks', st1) ∧ AccX A' ks' (vs ++ [v]) ∧ Mem h0 n0 X st1 (L ++ (A' ++ B)) ∧ ∀ c m l, (c, m, l) ∈ A' → (∃ m l, (c, m, l) ∈ A) ∨ st.n ≤ c := by
  have hr := (hM.row1 hk).rowV
  cases hA with
  | none =>
    have h1 := append_nil (st := st) T (n := 1) (z2 := 1) (off2 := 0) hr (by simp) (by decide) (by decide)
    refine ⟨_, [(st.n, 0, [v])], _, h1, ?_, ?_, fun c m l hm => ?_⟩
    · exact .own (vs := [v]) (by simp)
    · have h2 := hM.alloc [v]
      have h3 := h2.perm (M' := L ++ ([(st.n, 0, [v])] ++ B)) (by simpa using (List.perm_middle (l₁ := L) (l₂ := B) (a := (st.n, 0, [v]))).symm)
      simpa using h3
    · simp at hm; exact .inr (by omega)
  | own hb' =>
    rename_i c m
    obtain ⟨m', st1, h1, h2, _⟩ := hM.append (P := P) T (k := L.length) (c := c) (m := m) (len := vs.length) (c2 := c2) (m2 := m2) (off2 := 0) (n := 1) (z2 := 1) (l := vs) (l2 := [v]) (get_mid L B (c, m, vs)) (by simp) hr (by simp) (by decide) hb
    rw [set_mid] at h2
    refine ⟨_, [(c, m', vs ++ [v])], st1, h1, ?_, by simpa using h2, fun c' m2 l hm => ?_⟩
    · have := AccX.own (c := c) (m := m') (vs := vs ++ [v]) (by simpa using hb)
      rw [List.length_append] at this
      exact this
    · simp at hm; exact .inl ⟨m, vs, by simp [hm.1]⟩
section
variable {P : Program} {G : Env} {N : Nat} {h0 : Hp} {n0 : Nat} {X : List Nat} {st : St} {L A B : Rows1} {T : Tr AV} {ops rest : List Oper} {K : List (Nat × AV)} {R : Tr AV → St → Prop} {d : Nat} {ty : TypeId} {pos : String} {af : Array Edge}
theorem wr_accX {x y : Operand} {t e : TypeId} {c2 m2 k2 : Nat} {ks v : AV} {vs : List AV} (hK : KnT K T) (hM : Mem h0 n0 X st (L ++ (A ++ B))) (hA : AccX A ks vs) (S : SlT P t e 1) (hx : opK G K x = some ks) (hy : opK G K y = some (.sl c2 m2 0 1 1)) (hk : (L ++ (A ++ B))[k2]? = some (c2, m2, [v])) (hb : vs.length + 1 ≤ 1000000000) (hN : Nat.ble (d + 1) N = true)
  (hn : ∀ (ks' : AV) A' T' st', KnT ((d, ks') :: K) T' → AccX A' ks' (vs ++ [v]) → (∀ c m l, (c, m, l) ∈ A' → (∃ m l, (c, m, l) ∈ A) ∨ st.n ≤ c) → Mem h0 n0 X st' (L ++ (A' ++ B)) → WR P G N ops rest R T' st') : WR P G N ops (⟨some d, .call { callee := .builtin .append, args := #[x, y], argTypes := #[t, t] }, ty, pos, af, none⟩ :: rest) R T st := by
 obtain ⟨ks', A', st1, h1, h2, h3, h4⟩ := hM.accX1 hA S hk hb
 exact wr_op hK (os_append rfl hx hy h1) (Nat.le_of_ble_eq_true hN) fun T' hT' => hn ks' A' T' st1 hT' h2 h4 h3
end
theorem ZAcc.nilSl {n0 : Nat} {A : Rows1} {ks : AV} {l : List Int} (h : ZAcc n0 A ks l) : ks = .nils ∨ ∃ c m o n, ks = .sl c m o n 1 := by
 cases h with
 | none => exact .inl rfl
 | own => exact .inr ⟨_, _, _, _, rfl⟩
end Go.Proofs.YtiknomepbklibaaGreatDoor
