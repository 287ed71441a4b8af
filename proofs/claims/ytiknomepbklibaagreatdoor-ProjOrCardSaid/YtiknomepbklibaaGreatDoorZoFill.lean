/-
  Sets in memory: their rows, the map of their numbers; rules for maps.
-/
import Derived.Test.YtiknomepbklibaaGreatDoorZoPoolW
import Derived.Test.YtiknomepbklibaaGreatDoorZoSy2
section
namespace Go.Proofs.YtiknomepbklibaaGreatDoor
open Go Go.RowKit
set_option linter.unusedVariables false
set_option maxRecDepth 100000

theorem RdR.frame {h h' : Hp} {z : Nat} {ls : List (List AV)} {v : AV} (r : RdR h [] z ls v) (e : ∀ c m o n y, v = .sl c m o n y → h' c = h c) : RdR h' [] z ls v :=
 ⟨r.len, r.bnd, r.cell, fun i cs hi => by
  obtain ⟨c, m, off, cells, h1, h2, ⟨ro, e1, vs, ms, h3, h4⟩, h5⟩ := r.at_ i cs hi
  exact ⟨c, m, off, cells, h1, h2, ⟨ro, e1, vs, ms, by rw [e c m off _ _ h1]; exact h3, h4⟩, h5⟩, fun c m off n z' e' => by
  obtain ⟨h1, cells, ⟨ro, e1, vs, ms, h3, h4⟩, h5⟩ := r.alive c m off n z' e'
  exact ⟨h1, cells, ⟨ro, e1, vs, ms, by rw [e c m off n z' e']; exact h3, h4⟩, h5⟩⟩
theorem Row1.frame {h h' : Hp} {c m : Nat} {l : List AV} (r : Row1 h c m l) (e : h' c = h c) : Row1 h' c m l := by
 obtain ⟨vs, ms, h1, h2⟩ := r
 exact ⟨vs, ms, by rw [e]; exact h1, h2⟩
theorem Row1.noMap {h : Hp} {c m c' : Nat} {l : List AV} {es : List (AV × AV × Nat)} {k : Nat} (r : Row1 h c m l) (hm : h c' = some (.map es k)) : c ≠ c' := by
 rintro rfl
 obtain ⟨vs, ms, h1, _⟩ := r
 rw [h1] at hm; cases hm
/-- A row of slices. -/
inductive AccX : Rows1 → AV → List AV → Prop
  | none : AccX [] .nils []
  | own {c m : Nat} {vs : List AV} (hb : vs.length ≤ 1000000000) : AccX [(c, m, vs)] (.sl c m 0 vs.length 1) vs
theorem AccX.len {A : Rows1} {ks : AV} {vs : List AV} (h : AccX A ks vs) : slLen ks = some vs.length := by cases h <;> rfl
theorem AccX.cell {A : Rows1} {ks : AV} {vs : List AV} (h : AccX A ks vs) : isCell ks = true := by cases h <;> rfl
theorem AccX.rd {A : Rows1} {ks : AV} {vs : List AV} (h : AccX A ks vs) {hp : Hp} (hr : ∀ c m l, (c, m, l) ∈ A → Row1 hp c m l) : RdR hp [] 1 (vs.map fun v => [v]) ks := by
 cases h with
 | none => exact .nil _ _ _
 | own hb =>
  rename_i c m
  have h1 := hr c m vs (by simp)
  have e : (vs.map fun v => [v]).flatten = vs := by
   clear h1 hr hb
   induction vs with
   | nil => rfl
   | cons v vs ih => rw [List.map_cons, List.flatten_cons, ih]; rfl
  have := RdR.own (X := []) (z := 1) (ls := vs.map fun v => [v]) (c := c) (m := m) (by rw [e]; exact h1) (by simp) (by simp) (by rw [List.length_map]; omega)
  rw [List.length_map] at this
  exact this
/-! Numbers of sets. -/
def numF : Nat → List (List Int) → List Int → Option Nat
 | _, [], _ => none
 | j, x :: L, s => if x = s then some j else numF (j + 1) L s
def entsF : Nat → List (List Int) → List (AV × AV)
 | _, [] => []
 | j, x :: L => (.str (keyN x), .int .i64 (j : Int)) :: entsF (j + 1) L
def prE (e : AV × AV × Nat) : AV × AV := (e.1, e.2.1)
theorem entsF_snoc : ∀ (j : Nat) (L : List (List Int)) (s : List Int), entsF j (L ++ [s]) = entsF j L ++ [(.str (keyN s), .int .i64 ((j + L.length : Nat) : Int))]
 | j, [], s => by simp [entsF]
 | j, x :: L, s => by
  rw [List.cons_append, entsF, entsF, entsF_snoc (j + 1) L s, List.cons_append, List.length_cons, show j + 1 + L.length = j + (L.length + 1) by omega]
theorem numF_some : ∀ {L : List (List Int)} {j i : Nat} {s : List Int}, numF j L s = some i → j ≤ i ∧ L[i - j]? = some s
 | [], j, i, s, h => by cases h
 | x :: L, j, i, s, h => by
  rw [numF] at h
  split at h
  ·rename_i e
   injection h with h
   subst h e
   exact ⟨Nat.le_refl _, by rw [Nat.sub_self]; rfl⟩
  ·obtain ⟨h1, h2⟩ := numF_some h
   refine ⟨by omega, ?_⟩
   rw [show i - j = (i - (j + 1)) + 1 by omega]
   exact h2
theorem numF_none : ∀ {L : List (List Int)} {j : Nat} {s : List Int}, numF j L s = none → s ∉ L
 | [], j, s, _ => by simp
 | x :: L, j, s, h => by
  rw [numF] at h
  split at h
  ·cases h
  ·rename_i e
   intro hm
   rcases List.mem_cons.1 hm with e' | hm
   ·exact e e'.symm
   ·exact numF_none h hm
theorem findA_sets (s : List Int) : ∀ (L : List (List Int)) (es : List (AV × AV × Nat)) (j : Nat), es.map prE = entsF j L → findA .string (.str (keyN s)) es j = some ((numF j L s).map fun i => (i, .int .i64 (i : Int))) := by
 intro L
 induction L with
 | nil =>
  intro es j h
  cases es with
  | nil => rfl
  | cons e es => cases h
 | cons x L ih =>
  intro es j h
  cases es with
  | nil => cases h
  | cons e es =>
   rw [List.map_cons, entsF] at h
   injection h with h1 h2
   obtain ⟨e1, e2, e3⟩ := e
   injection h1 with h1 h3
   have h1 : e1 = .str (keyN x) := h1
   have h3 : e2 = .int .i64 (j : Int) := h3
   subst h1 h3
   rw [findA_cons, numF]
   show (ob (some (eqT (keyN s) (keyN x))) fun b => bif' b _ _) = _
   rw [ob_some, eqT_eq]
   by_cases hx : x = s
   ·subst hx
    rw [if_pos rfl, decide_eq_true rfl]; rfl
   ·rw [if_neg hx, decide_eq_false (fun e => hx (keyN_inj e).symm), bif_false]
    exact ih es (j + 1) h2
/-- A set's number, and the sets that are known then. -/
def ofN (L : List (List Int)) (l : List Int) : Nat := (numF 0 L (sortedZ l)).getD L.length
def ofL (L : List (List Int)) (l : List Int) : List (List Int) := if (numF 0 L (sortedZ l)).isSome then L else L ++ [sortedZ l]
/-! Rules for maps. -/
section
variable {G : Env} {K : List (Nat × AV)} {st : St} {cm n : Nat} {es : List (AV × AV × Nat)} {L : List (List Int)} {s : List Int} {m k x : Operand}
theorem os_lookupZ (hm : opK G K m = some (.mp cm)) (hk : opK G K k = some (.str (keyN s))) (hc : st.h.get cm = some (.map es n)) (he : es.map prE = entsF 0 L) :
  OpS Tryz.prog G K (.lookup 95 m k true) st (.tup [.int .i64 (((numF 0 L s).getD 0 : Nat) : Int), .bool (numF 0 L s).isSome]) st := .of fun T hT c d ty pos af g => by
 show (ob (opd G T m) fun m => ob (opd G T k) fun k => ret (lookupA Tryz.prog 95 m k true st.h.get) st) = _
 rw [hT.opd hm, hT.opd hk, ob_some, ob_some]
 unfold lookupA
 have hz : zeroV Tryz.prog 3 = some (.int .i64 0) := by kernel_rfl
 have hfd : findP Tryz.prog 9 .string (.str (keyN s)) es 0 = some ((numF 0 L s).map fun i => (i, .int .i64 (i : Int))) := findA_sets s L es 0 he
 have hko : keyOkP Tryz.prog 9 .string (.str (keyN s)) = true := rfl
 simp only [un_M_string_int, un_string, hc, ob_some, hfd, hko, need_true']
 cases hn : numF 0 L s with
 | none =>
  simp only [Option.map_none, hz, ob_some]
  rfl
 | some i => rfl
noncomputable def mapSt (st : St) (cm n : Nat) (es : List (AV × AV × Nat)) (s : List Int) (z : Int) : St := ⟨st.n, st.h.set cm (.map (es ++ [(.str (keyN s), .int .i64 z, n)]) (n + 1))⟩
theorem os_mapZ {z : Int} (hm : opK G K m = some (.mp cm)) (hk : opK G K k = some (.str (keyN s))) (hx : opK G K x = some (.int .i64 z)) (hc : st.h.get cm = some (.map es n)) (he : es.map prE = entsF 0 L) (hn : numF 0 L s = none) :
  OpS Tryz.prog G K (.mapUpdate 95 m k x) st (.tup []) (mapSt st cm n es s z) := .of fun T hT c d ty pos af g => by
 show (ob (opd G T m) fun m => ob (opd G T k) fun k => ob (opd G T x) fun x => mapUpdA Tryz.prog 95 m k x st) = _
 rw [hT.opd hm, hT.opd hk, hT.opd hx, ob_some, ob_some, ob_some]
 unfold mapUpdA mapSt
 have hfd : findP Tryz.prog 9 .string (.str (keyN s)) es 0 = some ((numF 0 L s).map fun i => (i, .int .i64 (i : Int))) := findA_sets s L es 0 he
 have hko : keyOkP Tryz.prog 9 .string (.str (keyN s)) = true := rfl
 rw [hn, Option.map_none] at hfd
 simp only [un_M_string_int, un_string, hc, ob_some, hfd, hko, need_true']
 show (need true _) = _
 simp only [need_true', sList_eq, appL_eq, sNat_eq, withCls_eq]
end
section
variable {G : Env} {N : Nat} {ops : List Oper} {T : Tr AV} {K : List (Nat × AV)} {st : St} {sn : List St} {r : List (Nat × Nat)} {R : Tr AV → St → Prop} {i : Nat} {ty : TypeId} {pos : String} {af : Array Edge} {cm n : Nat} {es : List (AV × AV × Nat)} {L : List (List Int)} {s : List Int} {m k x : Operand} {z : Int}
theorem wd_mapZ (ho : ops[i]? = some ⟨none, .mapUpdate 95 m k x, ty, pos, af, none⟩) (hK : KnT K T) (hm : opK G K m = some (.mp cm)) (hk : opK G K k = some (.str (keyN s))) (hx : opK G K x = some (.int .i64 z)) (hc : st.h.get cm = some (.map es n)) (he : es.map prE = entsF 0 L) (hn : numF 0 L s = none)
  (hr : WD Tryz.prog G N ops (r.map (plF ops)) R T (mapSt st cm n es s z) (mapSt st cm n es s z :: sn)) : WD Tryz.prog G N ops (((i, 0) :: r).map (plF ops)) R T st sn := by
 rw [plF_cons ho]
 exact wd_step rfl (os_mapZ hm hk hx hc he hn T hK _ _ _ _ _) rfl (fun e he => by cases he) hr
end
theorem mapSt_same (st : St) (cm n : Nat) (es : List (AV × AV × Nat)) (s : List Int) (z : Int) : (mapSt st cm n es s z).h.get cm = some (.map (es ++ [(.str (keyN s), .int .i64 z, n)]) (n + 1)) := by
 unfold mapSt; rw [set_upd]; exact upd_self _ _ _
theorem mapSt_other (st : St) {cm c : Nat} (n : Nat) (es : List (AV × AV × Nat)) (s : List Int) (z : Int) (h : c ≠ cm) : (mapSt st cm n es s z).h.get c = st.h.get c := by
 unfold mapSt; rw [set_upd, upd_ne _ _ h]
theorem mapSt_fresh {st : St} (hf : Fresh st) {cm : Nat} (hc : cm < st.n) (n : Nat) (es : List (AV × AV × Nat)) (s : List Int) (z : Int) : Fresh (mapSt st cm n es s z) := fun c hle => by
 have hle : st.n ≤ c := hle
 rw [mapSt_other _ _ _ _ _ (by omega)]
 exact hf c hle
/-! Slices of numbers' rows. -/
end Go.Proofs.YtiknomepbklibaaGreatDoor
end
section
namespace Go.Proofs.YtiknomepbklibaaGreatDoor
open Go
set_option linter.unusedVariables false

theorem fillA_one {place : Nat → Option (Nat × Nat)} {i off : Nat} {v : AV} {ps : List (Nat × AV)} {l l1 : List AV} (hp : place i = some (off, 1)) (hc : isCell v = true) (ho : overL [v] off l = some l1) : fillA place ((i, v) :: ps) l = fillA place ps l1 := by
 rw [fillA_cons, hp, ob_some, cells_one hc]
 show need true (ob (overL [v] off l) _) = _
 rw [ho]; rfl
theorem fillA_any {place : Nat → Option (Nat × Nat)} {i off n : Nat} {v : AV} {ps : List (Nat × AV)} {l l1 : List AV} (hp : place i = some (off, n)) (hn : Nat.beq (lenL (cellsA v)) n = true) (ho : overL (cellsA v) off l = some l1) : fillA place ((i, v) :: ps) l = fillA place ps l1 := by
 rw [fillA_cons, hp, ob_some]
 show need (Nat.beq (lenL (cellsA v)) n) (ob (overL (cellsA v) off l) _) = _
 rw [hn, ho]; rfl
end Go.Proofs.YtiknomepbklibaaGreatDoor
end
