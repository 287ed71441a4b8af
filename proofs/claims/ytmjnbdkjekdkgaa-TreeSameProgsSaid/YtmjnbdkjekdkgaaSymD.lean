/-
  Calls with open arguments, by the reckoner: memory of one's own.
-/
import Derived.Test.YtmjnbdkjekdkgaaSymC
namespace Go.Proofs.Ytmjnbdkjekdkgaa
open Go
set_option linter.unusedVariables false
set_option linter.unusedSimpArgs false

/-- Memory as a function has it: what lay there is kept, but for some classes; rows of which the cells are known. -/
structure Mem (h0 : Hp) (n0 : Nat) (X : List Nat) (st : St) (M : List (Nat × Nat × List AV)) : Prop where
  fresh : Fresh st
  le : n0 ≤ st.n
  base : ∀ c, n0 ≤ c → h0 c = none
  row : ∀ c m l, (c, m, l) ∈ M → ∃ vs ms, st.h.get c = some (.row false ms) ∧ ms[m]? = some (l.length, vs, some l)
  lt : ∀ c m l, (c, m, l) ∈ M → c < st.n
  own : ∀ c m l, (c, m, l) ∈ M → n0 ≤ c ∨ c ∈ X
  nodup : (M.map Prod.fst).Nodup
  old : ∀ c, c < n0 → c ∉ X → st.h.get c = h0 c
/-- Nothing that lay there is changed. -/
structure Qt (st st' : St) : Prop where
  fresh : Fresh st'
  le : st.n ≤ st'.n
  old : ∀ c, c < st.n → st'.h.get c = st.h.get c
theorem Qt.refl {st : St} (h : Fresh st) : Qt st st := ⟨h, Nat.le_refl _, fun _ _ => rfl⟩
theorem Qt.trans {a b c : St} (x : Qt a b) (y : Qt b c) : Qt a c := ⟨y.fresh, Nat.le_trans x.le y.le, fun k hk => by rw [y.old k (Nat.lt_of_lt_of_le hk x.le), x.old k hk]⟩
theorem Mem.start {st : St} (h : Fresh st) : Mem st.h.get st.n [] st [] :=
  ⟨h, Nat.le_refl _, h, fun c m l h => (by cases h), fun c m l h => (by cases h), fun c m l h => (by cases h), List.nodup_nil, fun _ _ _ => rfl⟩
section
variable {P : Program} {G : Env} {N : Nat} {h0 : Hp} {n0 : Nat} {X : List Nat} {st : St} {M : List (Nat × Nat × List AV)}
theorem Mem.qt {st0 : St} (h : Mem st0.h.get st0.n [] st M) : Qt st0 st := ⟨h.fresh, h.le, fun c hc => h.old c hc (by simp)⟩
theorem Mem.less (h : Mem h0 n0 X st M) {M' : List (Nat × Nat × List AV)} (hs : M'.Sublist M) : Mem h0 n0 X st M' :=
  ⟨h.fresh, h.le, h.base, fun c m l hm => h.row c m l (hs.subset hm), fun c m l hm => h.lt c m l (hs.subset hm), fun c m l hm => h.own c m l (hs.subset hm), h.nodup.sublist (hs.map _), h.old⟩
theorem Mem.quiet (h : Mem h0 n0 X st M) {st' : St} (q : Qt st st') : Mem h0 n0 X st' M :=
  ⟨q.fresh, Nat.le_trans h.le q.le, h.base, fun c m l hm => by
    obtain ⟨vs, ms, h1, h2⟩ := h.row c m l hm
    exact ⟨vs, ms, by rw [q.old c (h.lt c m l hm)]; exact h1, h2⟩, fun c m l hm => Nat.lt_of_lt_of_le (h.lt c m l hm) q.le, h.own, h.nodup, fun c hc hx => by rw [q.old c (Nat.lt_of_lt_of_le hc h.le)]; exact h.old c hc hx⟩
theorem Mem.alloc (h : Mem h0 n0 X st M) (l : List AV) : Mem h0 n0 X ⟨st.n + 1, st.h.set st.n (.row false [(l.length, 0, some l)])⟩ ((st.n, 0, l) :: M) := by
  have hg : ∀ c, (st.h.set st.n (.row false [(l.length, 0, some l)])).get c = if c = st.n then some (.row false [(l.length, 0, some l)]) else st.h.get c := fun c => Tr.get_set _ _ _ _
  refine ⟨fun c hc => ?_, Nat.le_succ_of_le h.le, h.base, fun c m l' hm => ?_, fun c m l' hm => ?_, fun c m l' hm => ?_, ?_, fun c hc hx => ?_⟩
  · have hc : st.n + 1 ≤ c := hc
    show (st.h.set st.n _).get c = none
    rw [hg, if_neg (by omega)]; exact h.fresh c (by omega)
  · rcases List.mem_cons.1 hm with e | hm
    · injection e with e1 e2
      injection e2 with e2 e3
      subst e1 e2 e3
      exact ⟨0, _, (hg _).trans (if_pos rfl), rfl⟩
    · obtain ⟨vs, ms, h1, h2⟩ := h.row c m l' hm
      have := h.lt c m l' hm
      exact ⟨vs, ms, by show (st.h.set st.n _).get c = _; rw [hg, if_neg (by omega)]; exact h1, h2⟩
  · rcases List.mem_cons.1 hm with e | hm
    · injection e with e1 e2; subst e1; exact Nat.lt_succ_self _
    · exact Nat.lt_succ_of_lt (h.lt c m l' hm)
  · rcases List.mem_cons.1 hm with e | hm
    · injection e with e1 e2; subst e1; exact .inl h.le
    · exact h.own c m l' hm
  · rw [List.map_cons]
    refine List.nodup_cons.2 ⟨fun hm => ?_, h.nodup⟩
    obtain ⟨⟨c, m, l'⟩, h1, h2⟩ := List.mem_map.1 hm
    have := h.lt c m l' h1
    simp only at h2
    omega
  · show (st.h.set st.n _).get c = _
    have := h.le
    rw [hg, if_neg (by omega)]; exact h.old c hc hx
theorem set_map_fst {k : Nat} {c m : Nat} {l l' : List AV} {M : List (Nat × Nat × List AV)} (hk : M[k]? = some (c, m, l)) : (M.set k (c, m, l')).map Prod.fst = M.map Prod.fst := by
  apply List.ext_getElem?
  intro i
  rw [List.getElem?_map, List.getElem?_map, List.getElem?_set]
  by_cases h : k = i
  · subst h
    rw [if_pos rfl, hk]
    have := (List.getElem?_eq_some_iff.1 hk).1
    simp [this]
  · rw [if_neg h]
theorem mem_set_iff {k : Nat} {c m : Nat} {l l' : List AV} {M : List (Nat × Nat × List AV)} (hk : M[k]? = some (c, m, l)) (hn : (M.map Prod.fst).Nodup) {x : Nat × Nat × List AV} (hx : x ∈ M.set k (c, m, l')) :
    x = (c, m, l') ∨ (x ∈ M ∧ x.1 ≠ c) := by
  obtain ⟨i, hi⟩ := List.getElem?_of_mem hx
  rw [List.getElem?_set] at hi
  by_cases h : k = i
  · subst h
    have := (List.getElem?_eq_some_iff.1 hk).1
    simp [this] at hi
    exact .inl hi.symm
  · rw [if_neg h] at hi
    refine .inr ⟨List.mem_of_getElem? hi, fun e => h ?_⟩
    have h1 : (M.map Prod.fst)[k]? = some c := by rw [List.getElem?_map, hk]; rfl
    have h2 : (M.map Prod.fst)[i]? = some c := by rw [List.getElem?_map, hi]; simp [e]
    exact (List.getElem?_inj (List.getElem?_eq_some_iff.1 h1).1 hn).1 (h1.trans h2.symm)
theorem Mem.store (h : Mem h0 n0 X st M) {k c m off : Nat} {l l' : List AV} {t : TypeId} {w : AV} {n : Nat} (hk : M[k]? = some (c, m, l)) (hz : sizeA P t = some n) (hn : (cellsA w).length = n) (hc : allL isCell (cellsA w) = true) (ho : overL (cellsA w) off l = some l') :
    ∃ st1, storeA P t (.ptr c m off) w st = some (.tup [], st1) ∧ Mem h0 n0 X st1 (M.set k (c, m, l')) ∧ st1.n = st.n := by
  have hm := List.mem_of_getElem? hk
  obtain ⟨vs, ms, h1, h2⟩ := h.row c m l hm
  have hlen : l'.length = l.length := (overL_spec _ _ _ _ ho).2.1
  have hr : rowOf st.h.get c m = some (l.length, vs, l, false, ms) := by
    unfold rowOf
    rw [h1, ob_some]
    show ob (nth ms m) _ = _
    rw [nth_eq, h2]; rfl
  have e : ∃ ms', storeA P t (.ptr c m off) w st = some (.tup [], ⟨st.n, st.h.set c (.row false ms')⟩) ∧ ms'[m]? = some (l.length, vs, some l') := by
    unfold storeA
    simp only [hr, ob_some, hz, lenL_eq, hn, Nat.beq_refl, need_true', hc, ho, Bool.not_false]
    refine ⟨setN (l.length, vs, some l') (killMs (vs + off) (vs + off + n) ms) m, by rw [sList_eq, sList_eq, withCls_eq], ?_⟩
    rw [setN_eq, List.getElem?_set_self]
    rw [killMs_length]
    exact (List.getElem?_eq_some_iff.1 h2).1
  obtain ⟨ms', e1, e2⟩ := e
  have hg : ∀ x, (st.h.set c (.row false ms')).get x = if x = c then some (.row false ms') else st.h.get x := fun x => Tr.get_set _ _ _ _
  refine ⟨_, e1, ⟨fun x hx => ?_, h.le, h.base, fun x y z hm' => ?_, fun x y z hm' => ?_, fun x y z hm' => ?_, ?_, fun x hx hX => ?_⟩, rfl⟩
  · show (st.h.set c _).get x = none
    have := h.lt c m l hm
    have hx : st.n ≤ x := hx
    rw [hg, if_neg (by omega)]; exact h.fresh x hx
  · rcases mem_set_iff hk h.nodup hm' with e | ⟨h3, h4⟩
    · injection e with e1 e2
      injection e2 with e2 e3
      subst e1 e2 e3
      exact ⟨vs, ms', (hg _).trans (if_pos rfl), by rw [hlen]; exact e2⟩
    · obtain ⟨vs', ms2, h5, h6⟩ := h.row x y z h3
      exact ⟨vs', ms2, by show (st.h.set c _).get x = _; rw [hg, if_neg h4]; exact h5, h6⟩
  · rcases mem_set_iff hk h.nodup hm' with e | ⟨h3, h4⟩
    · injection e with e1 e2; subst e1; exact h.lt _ m l hm
    · exact h.lt x y z h3
  · rcases mem_set_iff hk h.nodup hm' with e | ⟨h3, h4⟩
    · injection e with e1 e2; subst e1; exact h.own _ m l hm
    · exact h.own x y z h3
  · rw [set_map_fst hk]; exact h.nodup
  · show (st.h.set c _).get x = _
    have hxc : x ≠ c := fun e => by
      subst e
      rcases h.own x m l hm with h5 | h5
      · omega
      · exact hX h5
    rw [hg, if_neg hxc]; exact h.old x hx hX
theorem Mem.load (h : Mem h0 n0 X st M) {k c m off : Nat} {l : List AV} {t : TypeId} {v : AV} (hk : M[k]? = some (c, m, l)) (hp : partA P t l off = some v) : loadA P t (.ptr c m off) st.h.get = some v := by
  obtain ⟨vs, ms, h1, h2⟩ := h.row c m l (List.mem_of_getElem? hk)
  show ob (rowOf st.h.get c m) _ = _
  unfold rowOf
  rw [h1, ob_some]
  show ob (ob (nth ms m) _) _ = _
  rw [nth_eq, h2]
  exact hp

variable {ops rest : List Oper} {K : List (Nat × AV)} {R : Tr AV → St → Prop} {T : Tr AV}
/-- A variable's cell. -/
theorem wr_alloc {d : Nat} {t ty : TypeId} {pos : String} {af : Array Edge} {l : List AV} (hK : KnT K T) (hM : Mem h0 n0 X st M) (hz : zeroOf P t = some l) (hN : d < N)
    (hn : ∀ (c : Nat) T' st', KnT ((d, .ptr c 0 0) :: K) T' → Mem h0 n0 X st' ((c, 0, l) :: M) → WR P G N ops rest R T' st') : WR P G N ops (⟨some d, .alloc t, ty, pos, af, none⟩ :: rest) R T st := by
  refine wr_op (v := .ptr st.n 0 0) (st1 := ⟨st.n + 1, st.h.set st.n (.row false [(l.length, 0, some l)])⟩) hK (.of fun T hT c d ty pos af g => ?_) hN fun T' hT' => hn st.n T' _ hT' (hM.alloc l)
  show allocA P t st = _
  unfold allocA
  rw [hz, ob_some, memRow_eq]
theorem wr_box {d : Nat} {t ty : TypeId} {pos : String} {af : Array Edge} {x : Operand} {v : AV} (hK : KnT K T) (hM : Mem h0 n0 X st M) (hx : opK G K x = some v) (hc : allL isCell (cellsA v) = true) (hN : d < N)
    (hn : ∀ (c : Nat) T' st', KnT ((d, .ptr c 0 0) :: K) T' → Mem h0 n0 X st' ((c, 0, cellsA v) :: M) → WR P G N ops rest R T' st') : WR P G N ops (⟨some d, .box t x, ty, pos, af, none⟩ :: rest) R T st := by
  refine wr_op (v := .ptr st.n 0 0) (st1 := ⟨st.n + 1, st.h.set st.n (.row false [((cellsA v).length, 0, some (cellsA v))])⟩) hK (.of fun T hT c d ty pos af g => ?_) hN fun T' hT' => hn st.n T' _ hT' (hM.alloc _)
  show (ob (opd G T x) fun x => boxA x st) = _
  rw [hT.opd hx, ob_some]
  unfold boxA
  rw [hc, need_true', memRow_eq]
theorem wr_store {t ty : TypeId} {pos : String} {af : Array Edge} {x y : Operand} {w : AV} {k c m off n : Nat} {l l' : List AV} (hK : KnT K T) (hM : Mem h0 n0 X st M) (hx : opK G K x = some (.ptr c m off)) (hy : opK G K y = some w) (hk : M[k]? = some (c, m, l)) (hz : sizeA P t = some n) (hn : (cellsA w).length = n)
    (hc : allL isCell (cellsA w) = true) (ho : overL (cellsA w) off l = some l') (hr : ∀ st', Mem h0 n0 X st' (M.set k (c, m, l')) → WR P G N ops rest R T st') : WR P G N ops (⟨none, .store t x y, ty, pos, af, none⟩ :: rest) R T st := by
  obtain ⟨st1, h1, h2, _⟩ := hM.store hk hz hn hc ho
  refine wr_do (v := .tup []) (st1 := st1) hK (.of fun T hT c d ty pos af g => ?_) (hr st1 h2)
  show (ob (opd G T x) fun x => ob (opd G T y) fun y => storeA P t x y st) = _
  rw [hT.opd hx, hT.opd hy, ob_some, ob_some, h1]
theorem wr_load {d : Nat} {t ty : TypeId} {pos : String} {af : Array Edge} {x : Operand} {v : AV} {k c m off : Nat} {l : List AV} (hK : KnT K T) (hM : Mem h0 n0 X st M) (hx : opK G K x = some (.ptr c m off)) (hk : M[k]? = some (c, m, l)) (hp : partA P t l off = some v) (hN : d < N)
    (hn : ∀ T', KnT ((d, v) :: K) T' → WR P G N ops rest R T' st) : WR P G N ops (⟨some d, .load t x, ty, pos, af, none⟩ :: rest) R T st :=
  wr_op hK (os_load hx (hM.load hk hp)) hN hn
end
/-! What one type's cells are. -/
theorem part_agg {P : Program} {t : TypeId} {n : Nat} {l r : List AV} {off : Nat} (h : tk P t = .agg n) (hl : takeK n (dropN off l) (fun r => some (AV.agg r)) = some (.agg r)) : partA P t l off = some (.agg r) := by
  unfold partA
  rw [h]
  exact hl
theorem part_one {P : Program} {t : TypeId} {l : List AV} {off : Nat} {v : AV} (h : tk P t = .one) (hl : nth l off = some v) : partA P t l off = some v := by
  unfold partA
  rw [h]
  exact hl
end Go.Proofs.Ytmjnbdkjekdkgaa
