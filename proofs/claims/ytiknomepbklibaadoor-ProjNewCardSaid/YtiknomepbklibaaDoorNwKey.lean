/-
  Facts on the program's types.
-/
import Derived.Test.YtiknomepbklibaaDoorProg
import Derived.Test.YtiknomepbklibaaDoorNwTyg
import Derived.Test.YtiknomepbklibaaDoorNwMo
section
namespace Go.Proofs.YtiknomepbklibaaDoor
open Go
set_option maxRecDepth 100000

theorem tk_S_bool : tk Tryd.prog 22 = .one := by kernel_rfl
theorem sz_S_bool : sizeA Tryd.prog 22 = some 1 := by kernel_rfl
theorem ce_S_bool : Tryd.prog.cellsOf 22 = 1 := by kernel_rfl
theorem un_S_bool : Tryd.prog.underlying 22 = some (.slice 4) := by kernel_rfl
theorem el_S_bool : elemOfA Tryd.prog 22 = some 1 := by kernel_rfl
theorem tk_api_Auto : tk Tryd.prog 25 = .agg 3 := by kernel_rfl
theorem sz_api_Auto : sizeA Tryd.prog 25 = some 3 := by kernel_rfl
theorem ze_api_Auto : zeroOf Tryd.prog 25 = some [.int .i64 0, .nils, .nils] := by kernel_rfl
theorem ce_api_Auto : Tryd.prog.cellsOf 25 = 3 := by kernel_rfl
theorem fo_api_Auto_0 : fieldOff Tryd.prog 25 0 = some 0 := by kernel_rfl
theorem fo_api_Auto_1 : fieldOff Tryd.prog 25 1 = some 1 := by kernel_rfl
theorem fo_api_Auto_2 : fieldOff Tryd.prog 25 2 = some 2 := by kernel_rfl
theorem fi_api_Auto_2 (l : List AV) : fieldA Tryd.prog 25 (.agg l) 2 = partA Tryd.prog 23 l 2 := by kernel_rfl
theorem st_api_Auto : StT Tryd.prog 25 [(0, 1), (1, 1), (2, 1)] [.int .i64 0, .nils, .nils] := ⟨⟨_, Tryd.underlying25, by kernel_rfl, by kernel_rfl⟩, ze_api_Auto⟩
theorem tk_P_meter_Meter : tk Tryd.prog 40 = .one := by kernel_rfl
theorem un_P_meter_Meter : Tryd.prog.underlying 40 = some (.pointer 68) := by kernel_rfl
theorem un_P_auto_DFA : Tryd.prog.underlying 27 = some (.pointer 58) := by kernel_rfl
theorem ze_meter_Meter : zeroOf Tryd.prog 68 = some [.int .i64 0, .bool false] := by kernel_rfl
theorem fo_meter_Meter_0 : fieldOff Tryd.prog 68 0 = some 0 := by kernel_rfl
theorem fo_meter_Meter_1 : fieldOff Tryd.prog 68 1 = some 1 := by kernel_rfl
theorem st_meter_Meter : StT Tryd.prog 68 [(0, 1), (1, 1)] [.int .i64 0, .bool false] := ⟨⟨_, Tryd.underlying68, by kernel_rfl, by kernel_rfl⟩, ze_meter_Meter⟩
theorem ze_proj_maker : zeroOf Tryd.prog 64 = some [.nilp, .nilp] := by kernel_rfl
theorem fo_proj_maker_0 : fieldOff Tryd.prog 64 0 = some 0 := by kernel_rfl
theorem fo_proj_maker_1 : fieldOff Tryd.prog 64 1 = some 1 := by kernel_rfl
theorem st_proj_maker : StT Tryd.prog 64 [(0, 1), (1, 1)] [.nilp, .nilp] := ⟨⟨_, Tryd.underlying64, by kernel_rfl, by kernel_rfl⟩, ze_proj_maker⟩
theorem tk_P_bdd_Store : tk Tryd.prog 56 = .one := by kernel_rfl
theorem un_P_bdd_Store : Tryd.prog.underlying 56 = some (.pointer 88) := by kernel_rfl
theorem ze_auto_DFA : zeroOf Tryd.prog 58 = some [.nils, .nils, .nilp] := by kernel_rfl
theorem fo_auto_DFA_0 : fieldOff Tryd.prog 58 0 = some 0 := by kernel_rfl
theorem fo_auto_DFA_1 : fieldOff Tryd.prog 58 1 = some 1 := by kernel_rfl
theorem fo_auto_DFA_2 : fieldOff Tryd.prog 58 2 = some 2 := by kernel_rfl
theorem st_auto_DFA : StT Tryd.prog 58 [(0, 1), (1, 1), (2, 1)] [.nils, .nils, .nilp] := ⟨⟨_, Tryd.underlying58, by kernel_rfl, by kernel_rfl⟩, ze_auto_DFA⟩
theorem tk_S_bdd_node : tk Tryd.prog 86 = .one := by kernel_rfl
theorem sz_S_bdd_node : sizeA Tryd.prog 86 = some 1 := by kernel_rfl
theorem un_S_bdd_node : Tryd.prog.underlying 86 = some (.slice 91) := by kernel_rfl
theorem el_S_bdd_node : elemOfA Tryd.prog 86 = some 1 := by kernel_rfl
theorem tk_M_bdd_node_int : tk Tryd.prog 85 = .one := by kernel_rfl
theorem ze_bdd_Store : zeroOf Tryd.prog 88 = some [.int .i64 0, .nils, .nilm] := by kernel_rfl
theorem fo_bdd_Store_0 : fieldOff Tryd.prog 88 0 = some 0 := by kernel_rfl
theorem fo_bdd_Store_1 : fieldOff Tryd.prog 88 1 = some 1 := by kernel_rfl
theorem fo_bdd_Store_2 : fieldOff Tryd.prog 88 2 = some 2 := by kernel_rfl
theorem st_bdd_Store : StT Tryd.prog 88 [(0, 1), (1, 1), (2, 1)] [.int .i64 0, .nils, .nilm] := ⟨⟨_, Tryd.underlying88, by kernel_rfl, by kernel_rfl⟩, ze_bdd_Store⟩
theorem tk_bdd_node : tk Tryd.prog 91 = .one := by kernel_rfl
theorem ze_bdd_node : zeroOf Tryd.prog 91 = some [.nili] := by kernel_rfl
theorem ze_bdd_leaf : zeroOf Tryd.prog 117 = some [.int .i64 0] := by kernel_rfl
theorem fo_bdd_leaf_0 : fieldOff Tryd.prog 117 0 = some 0 := by kernel_rfl
theorem st_bdd_leaf : StT Tryd.prog 117 [(0, 1)] [.int .i64 0] := ⟨⟨_, Tryd.underlying117, by kernel_rfl, by kernel_rfl⟩, ze_bdd_leaf⟩
theorem sz_bdd_fork : sizeA Tryd.prog 119 = some 3 := by kernel_rfl
theorem ze_bdd_fork : zeroOf Tryd.prog 119 = some [.int .i64 0, .int .i64 0, .int .i64 0] := by kernel_rfl
theorem fo_bdd_fork_0 : fieldOff Tryd.prog 119 0 = some 0 := by kernel_rfl
theorem fo_bdd_fork_1 : fieldOff Tryd.prog 119 1 = some 1 := by kernel_rfl
theorem fo_bdd_fork_2 : fieldOff Tryd.prog 119 2 = some 2 := by kernel_rfl
theorem st_bdd_fork : StT Tryd.prog 119 [(0, 1), (1, 1), (2, 1)] [.int .i64 0, .int .i64 0, .int .i64 0] := ⟨⟨_, Tryd.underlying119, by kernel_rfl, by kernel_rfl⟩, ze_bdd_fork⟩
theorem sl_S_bool : SlT Tryd.prog 22 4 1 := ⟨un_S_bool, by kernel_rfl, ⟨_, ze_bool, rfl⟩, by kernel_rfl, by decide, by decide +kernel⟩
theorem sl_S_bdd_node : SlT Tryd.prog 86 91 1 := ⟨un_S_bdd_node, by kernel_rfl, ⟨_, ze_bdd_node, rfl⟩, by kernel_rfl, by decide, by decide +kernel⟩
end Go.Proofs.YtiknomepbklibaaDoor
end
section
namespace Go.Proofs.YtiknomepbklibaaDoor
open Go Go.RowKit
set_option linter.unusedVariables false
set_option linter.unusedSectionVars false
set_option maxRecDepth 100000

/-- A type of maps: how its keys are written. -/
structure KeyT (P : Program) (t : TypeId) {α : Type} (key : α → AV) (z : AV) : Prop where
  rule : ∃ kt et d, P.underlying t = some (.map kt et) ∧ P.underlying kt = some d ∧ zeroV P et = some z ∧ (∀ a, keyOkP P kt d (key a) = true) ∧ (∀ a i, findP P kt d (key a) [] i = some none) ∧
    ∀ a b v n es i, (a = b → findP P kt d (key a) ((key b, v, n) :: es) i = some (some (i, v))) ∧ (a ≠ b → findP P kt d (key a) ((key b, v, n) :: es) i = findP P kt d (key a) es (i + 1))
section
variable {α : Type} {key : α → AV}
def EntK (key : α → AV) (es : List (AV × AV × Nat)) (L : List (α × AV)) : Prop := es.map prE = L.map fun x => (key x.1, x.2)
open Classical in
noncomputable def lkK : List (α × AV) → α → Option AV
 | [], _ => none
 | x :: L, a => if x.1 = a then some x.2 else lkK L a
theorem lkK_mem : ∀ {L : List (α × AV)} {a : α} {v : AV}, lkK L a = some v → (a, v) ∈ L
 | [], a, v, h => by cases h
 | x :: L, a, v, h => by
  rw [lkK] at h
  split at h
  ·rename_i e
   injection h with h
   subst e h
   simp
  ·exact List.mem_cons_of_mem _ (lkK_mem h)
theorem lkK_none : ∀ {L : List (α × AV)} {a : α}, lkK L a = none → ∀ v, (a, v) ∉ L
 | [], a, _, v => by simp
 | x :: L, a, h, v => by
  rw [lkK] at h
  split at h
  ·cases h
  ·rename_i e
   intro hm
   rcases List.mem_cons.1 hm with e' | hm
   ·exact e (by rw [← e'])
   ·exact lkK_none h v hm
theorem EntK.snoc {es : List (AV × AV × Nat)} {L : List (α × AV)} (h : EntK key es L) (a : α) (v : AV) (n : Nat) : EntK key (es ++ [(key a, v, n)]) (L ++ [(a, v)]) := by
 unfold EntK at h ⊢
 rw [List.map_append, List.map_append, h]; rfl
theorem KeyT.find {P : Program} {t : TypeId} {z : AV} {kt et : TypeId} {d : TypeDesc} (h0 : ∀ a i, findP P kt d (key a) [] i = some none) (h1 : ∀ a b v n es i, (a = b → findP P kt d (key a) ((key b, v, n) :: es) i = some (some (i, v))) ∧ (a ≠ b → findP P kt d (key a) ((key b, v, n) :: es) i = findP P kt d (key a) es (i + 1))) (a : α) : ∀ (L : List (α × AV)) (es : List (AV × AV × Nat)) (i : Nat), EntK key es L →
  (lkK L a = none → findP P kt d (key a) es i = some none) ∧ ∀ v, lkK L a = some v → ∃ j, findP P kt d (key a) es i = some (some (j, v))
 | [], es, i, h => by
  cases es with
  | nil => exact ⟨fun _ => h0 a i, fun v hv => (by cases hv)⟩
  | cons e es => cases h
 | x :: L, es, i, h => by
  cases es with
  | nil => cases h
  | cons e es =>
   obtain ⟨e1, e2, e3⟩ := e
   unfold EntK at h
   rw [List.map_cons, List.map_cons] at h
   injection h with h h'
   injection h with h3 h4
   have h3 : e1 = key x.1 := h3
   have h4 : e2 = x.2 := h4
   subst h3 h4
   obtain ⟨k1, k2⟩ := h1 a x.1 x.2 e3 es i
   rw [lkK]
   split
   ·rename_i e
    exact ⟨fun h => (by cases h), fun v hv => (by injection hv with hv; subst hv; exact ⟨i, k1 e.symm⟩)⟩
   ·rename_i e
    rw [k2 fun h => e h.symm]
    exact KeyT.find (t := t) (z := z) (et := et) h0 h1 a L es (i + 1) h'
/-- A map. -/
def mpO (cm : Nat) (key : α → AV) (L : List (α × AV)) : Ob := ⟨fun c => c = cm, fun h => ∃ es n, h cm = some (.map es n) ∧ EntK key es L, fun h h' e ⟨es, n, h1, h2⟩ => ⟨es, n, by rw [e cm rfl]; exact h1, h2⟩⟩
theorem os_lookK {P : Program} {G : Env} {K : List (Nat × AV)} {st : St} {t : TypeId} {z : AV} (T : KeyT P t key z) {cm : Nat} {L : List (α × AV)} {a : α} {m k : Operand} (hH : (mpO cm key L).H st.h.get) (hm : opK G K m = some (.mp cm)) (hk : opK G K k = some (key a)) :
  OpS P G K (.lookup t m k true) st (.tup [(lkK L a).getD z, .bool (lkK L a).isSome]) st := .of fun T' hT c d ty pos af g => by
 obtain ⟨kt, et, d', u1, u2, u3, u4, u5, u6⟩ := T.rule
 obtain ⟨es, n, hc, he⟩ := hH
 show (ob (opd G T' m) fun m => ob (opd G T' k) fun k => ret (lookupA P t m k true st.h.get) st) = _
 rw [hT.opd hm, hT.opd hk, ob_some, ob_some]
 unfold lookupA
 obtain ⟨f1, f2⟩ := KeyT.find (P := P) (t := t) (z := z) (et := et) u5 u6 a L es 0 he
 simp only [u1, u2, u4, need_true', hc, ob_some]
 cases hl : lkK L a with
 | none => rw [f1 hl]; simp only [ob_some, u3, Option.getD_none, Option.isSome_none]; rfl
 | some v =>
  obtain ⟨j, f⟩ := f2 v hl
  rw [f]; rfl
noncomputable def mapStK (st : St) (cm n : Nat) (es : List (AV × AV × Nat)) (k v : AV) : St := ⟨st.n, st.h.set cm (.map (es ++ [(k, v, n)]) (n + 1))⟩
theorem os_mapK {P : Program} {G : Env} {K : List (Nat × AV)} {st : St} {t : TypeId} {z : AV} (T : KeyT P t key z) {cm n : Nat} {es : List (AV × AV × Nat)} {L : List (α × AV)} {a : α} {v : AV} {m k x : Operand} (hc : st.h.get cm = some (.map es n)) (he : EntK key es L) (hm : opK G K m = some (.mp cm)) (hk : opK G K k = some (key a)) (hx : opK G K x = some v) (hv : isCell v = true) (hn : lkK L a = none) :
  OpS P G K (.mapUpdate t m k x) st (.tup []) (mapStK st cm n es (key a) v) := .of fun T' hT c d ty pos af g => by
 obtain ⟨kt, et, d', u1, u2, u3, u4, u5, u6⟩ := T.rule
 show (ob (opd G T' m) fun m => ob (opd G T' k) fun k => ob (opd G T' x) fun x => mapUpdA P t m k x st) = _
 rw [hT.opd hm, hT.opd hk, hT.opd hx, ob_some, ob_some, ob_some]
 unfold mapUpdA mapStK
 obtain ⟨f1, f2⟩ := KeyT.find (P := P) (t := t) (z := z) (et := et) u5 u6 a L es 0 he
 simp only [u1, u2, u4, need_true', hc, ob_some, f1 hn, hv, Bool.true_or, sList_eq, appL_eq, sNat_eq, withCls_eq]
section
variable {P : Program} {G : Env} {N : Nat} {st0 st : St} {X0 : Fp} {M : Rows2} {Os : List Ob} {T : Tr AV} {ops rest : List Oper} {K : List (Nat × AV)} {R : Tr AV → St → Prop} {t ty : TypeId} {pos : String} {af : Array Edge} {z v : AV} {cm j : Nat} {L : List (α × AV)} {a : α} {m k x : Operand} {sn : List St} {i : Nat} {r : List (Nat × Nat)}
theorem MemO.mapPut (B : MemO st0 X0 st M Os) (hj : Os[j]? = some (mpO cm key L)) {es : List (AV × AV × Nat)} {n : Nat} (hc : st.h.get cm = some (.map es n)) (he : EntK key es L) (a : α) (v : AV) : MemO st0 X0 (mapStK st cm n es (key a) v) M (Os.set j (mpO cm key (L ++ [(a, v)]))) := by
 have hg : ∀ c, (mapStK st cm n es (key a) v).h.get c = if c = cm then some (.map (es ++ [(key a, v, n)]) (n + 1)) else st.h.get c := fun c => Tr.get_set _ _ _ _
 have hcm : cm < st.n := B.hi_ hj cm rfl
 refine B.call hj ⟨fun c hc => ?_, Nat.le_refl _, fun c hc hF => ?_⟩ ⟨_, _, (hg cm).trans (if_pos rfl), he.snoc a v n⟩ fun c hc => ⟨.inl hc, ?_⟩
 ·have hc : st.n ≤ c := hc
  rw [hg, if_neg (by omega)]
  exact B.fresh c hc
 ·have hF : ¬ c = cm := hF
  rw [hg, if_neg hF]
 ·have hc : c = cm := hc
  rw [hc]; exact hcm
theorem wr_mapK (hK : KnT K T) (B : MemO st0 X0 st M Os) (hj : Os[j]? = some (mpO cm key L)) (Tk : KeyT P t key z) (hm : opK G K m = some (.mp cm)) (hk : opK G K k = some (key a)) (hx : opK G K x = some v) (hv : isCell v = true) (hn : lkK L a = none)
  (hr : ∀ st', MemO st0 X0 st' M (Os.set j (mpO cm key (L ++ [(a, v)]))) → WR P G N ops rest R T st') : WR P G N ops (⟨none, .mapUpdate t m k x, ty, pos, af, none⟩ :: rest) R T st := by
 obtain ⟨es, n, hc, he⟩ := B.at_ hj
 exact wr_do hK (os_mapK Tk hc he hm hk hx hv hn) (hr _ (B.mapPut hj hc he a v))
/-- A new map. -/
theorem os_makeK : OpS P G K (.makeMap t none) st (.mp st.n) ⟨st.n + 1, st.h.set st.n (.map [] 0)⟩ := .of fun T hT c d ty pos af g => by
  show makeMapA st = _
  unfold makeMapA
  rw [newCls_eq]
theorem MemO.mapNew (B : MemO st0 X0 st M Os) (key : α → AV) : MemO st0 X0 ⟨st.n + 1, st.h.set st.n (.map [] 0)⟩ M (mpO st.n key [] :: Os) := by
 have hg : ∀ c, (st.h.set st.n (.map [] 0)).get c = if c = st.n then some (.map [] 0) else st.h.get c := fun c => Tr.get_set _ _ _ _
 refine B.new ⟨fun c hc => ?_, Nat.le_succ _, fun c hc => ?_⟩ ⟨[], 0, (hg st.n).trans (if_pos rfl), rfl⟩ fun c hc => ?_
 ·have hc : st.n + 1 ≤ c := hc
  show (st.h.set st.n _).get c = none
  rw [hg, if_neg (by omega)]
  exact B.fresh c (by omega)
 ·show (st.h.set st.n _).get c = _
  rw [hg, if_neg (by omega)]
 ·have hc : c = st.n := hc
  subst hc
  exact ⟨Nat.le_refl _, Nat.lt_succ_self _⟩
theorem wr_makeK {d : Nat} (key : α → AV) (hK : KnT K T) (B : MemO st0 X0 st M Os) (hN : Nat.ble (d + 1) N = true) (hr : ∀ (c : Nat) T' st', KnT ((d, .mp c) :: K) T' → MemO st0 X0 st' M (mpO c key [] :: Os) → WR P G N ops rest R T' st') : WR P G N ops (⟨some d, .makeMap t none, ty, pos, af, none⟩ :: rest) R T st :=
 wr_op hK os_makeK (Nat.le_of_ble_eq_true hN) fun T' hT' => hr _ T' _ hT' (B.mapNew key)
end
end
/-! Kinds of keys. -/
end Go.Proofs.YtiknomepbklibaaDoor
end
