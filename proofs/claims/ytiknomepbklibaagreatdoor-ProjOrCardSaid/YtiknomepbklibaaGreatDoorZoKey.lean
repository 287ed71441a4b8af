/-
  Facts on the program's types.
-/
import Derived.Test.YtiknomepbklibaaGreatDoorProg
import Derived.Test.YtiknomepbklibaaGreatDoorZoTyg
import Derived.Test.YtiknomepbklibaaGreatDoorZoMo
section
namespace Go.Proofs.YtiknomepbklibaaGreatDoor
open Go
set_option maxRecDepth 100000

theorem tk_S_bool : tk Tryz.prog 22 = .one := by kernel_rfl
theorem sz_S_bool : sizeA Tryz.prog 22 = some 1 := by kernel_rfl
theorem ce_S_bool : Tryz.prog.cellsOf 22 = 1 := by kernel_rfl
theorem un_S_bool : Tryz.prog.underlying 22 = some (.slice 4) := by kernel_rfl
theorem el_S_bool : elemOfA Tryz.prog 22 = some 1 := by kernel_rfl
theorem tk_api_Auto : tk Tryz.prog 25 = .agg 3 := by kernel_rfl
theorem sz_api_Auto : sizeA Tryz.prog 25 = some 3 := by kernel_rfl
theorem ze_api_Auto : zeroOf Tryz.prog 25 = some [.int .i64 0, .nils, .nils] := by kernel_rfl
theorem ce_api_Auto : Tryz.prog.cellsOf 25 = 3 := by kernel_rfl
theorem fo_api_Auto_0 : fieldOff Tryz.prog 25 0 = some 0 := by kernel_rfl
theorem fo_api_Auto_1 : fieldOff Tryz.prog 25 1 = some 1 := by kernel_rfl
theorem fo_api_Auto_2 : fieldOff Tryz.prog 25 2 = some 2 := by kernel_rfl
theorem fi_api_Auto_2 (l : List AV) : fieldA Tryz.prog 25 (.agg l) 2 = partA Tryz.prog 23 l 2 := by kernel_rfl
theorem st_api_Auto : StT Tryz.prog 25 [(0, 1), (1, 1), (2, 1)] [.int .i64 0, .nils, .nils] := ⟨⟨_, Tryz.underlying25, by kernel_rfl, by kernel_rfl⟩, ze_api_Auto⟩
theorem tk_P_meter_Meter : tk Tryz.prog 27 = .one := by kernel_rfl
theorem un_P_meter_Meter : Tryz.prog.underlying 27 = some (.pointer 65) := by kernel_rfl
theorem un_P_auto_DFA : Tryz.prog.underlying 29 = some (.pointer 86) := by kernel_rfl
theorem ze_meter_Meter : zeroOf Tryz.prog 65 = some [.int .i64 0, .bool false] := by kernel_rfl
theorem fo_meter_Meter_0 : fieldOff Tryz.prog 65 0 = some 0 := by kernel_rfl
theorem fo_meter_Meter_1 : fieldOff Tryz.prog 65 1 = some 1 := by kernel_rfl
theorem st_meter_Meter : StT Tryz.prog 65 [(0, 1), (1, 1)] [.int .i64 0, .bool false] := ⟨⟨_, Tryz.underlying65, by kernel_rfl, by kernel_rfl⟩, ze_meter_Meter⟩
theorem ze_proj_maker : zeroOf Tryz.prog 71 = some [.nilp, .nilp] := by kernel_rfl
theorem fo_proj_maker_0 : fieldOff Tryz.prog 71 0 = some 0 := by kernel_rfl
theorem fo_proj_maker_1 : fieldOff Tryz.prog 71 1 = some 1 := by kernel_rfl
theorem st_proj_maker : StT Tryz.prog 71 [(0, 1), (1, 1)] [.nilp, .nilp] := ⟨⟨_, Tryz.underlying71, by kernel_rfl, by kernel_rfl⟩, ze_proj_maker⟩
theorem tk_sibylref20_pair : tk Tryz.prog 77 = .agg 2 := by kernel_rfl
theorem ze_sibylref20_pair : zeroOf Tryz.prog 77 = some [.int .i64 0, .int .i64 0] := by kernel_rfl
theorem fo_sibylref20_pair_0 : fieldOff Tryz.prog 77 0 = some 0 := by kernel_rfl
theorem fo_sibylref20_pair_1 : fieldOff Tryz.prog 77 1 = some 1 := by kernel_rfl
theorem st_sibylref20_pair : StT Tryz.prog 77 [(0, 1), (1, 1)] [.int .i64 0, .int .i64 0] := ⟨⟨_, Tryz.underlying77, by kernel_rfl, by kernel_rfl⟩, ze_sibylref20_pair⟩
theorem un_S_sibylref20_pair : Tryz.prog.underlying 78 = some (.slice 77) := by kernel_rfl
theorem el_S_sibylref20_pair : elemOfA Tryz.prog 78 = some 2 := by kernel_rfl
theorem tk_P_bdd_Store : tk Tryz.prog 84 = .one := by kernel_rfl
theorem un_P_bdd_Store : Tryz.prog.underlying 84 = some (.pointer 125) := by kernel_rfl
theorem ze_auto_DFA : zeroOf Tryz.prog 86 = some [.nils, .nils, .nilp] := by kernel_rfl
theorem fo_auto_DFA_0 : fieldOff Tryz.prog 86 0 = some 0 := by kernel_rfl
theorem fo_auto_DFA_1 : fieldOff Tryz.prog 86 1 = some 1 := by kernel_rfl
theorem fo_auto_DFA_2 : fieldOff Tryz.prog 86 2 = some 2 := by kernel_rfl
theorem st_auto_DFA : StT Tryz.prog 86 [(0, 1), (1, 1), (2, 1)] [.nils, .nils, .nilp] := ⟨⟨_, Tryz.underlying86, by kernel_rfl, by kernel_rfl⟩, ze_auto_DFA⟩
theorem ze_sibylref13_Meter : zeroOf Tryz.prog 105 = some [.int .i64 0, .bool false] := by kernel_rfl
theorem fo_sibylref13_Meter_0 : fieldOff Tryz.prog 105 0 = some 0 := by kernel_rfl
theorem fo_sibylref13_Meter_1 : fieldOff Tryz.prog 105 1 = some 1 := by kernel_rfl
theorem st_sibylref13_Meter : StT Tryz.prog 105 [(0, 1), (1, 1)] [.int .i64 0, .bool false] := ⟨⟨_, Tryz.underlying105, by kernel_rfl, by kernel_rfl⟩, ze_sibylref13_Meter⟩
theorem tk_S_bdd_node : tk Tryz.prog 122 = .one := by kernel_rfl
theorem sz_S_bdd_node : sizeA Tryz.prog 122 = some 1 := by kernel_rfl
theorem un_S_bdd_node : Tryz.prog.underlying 122 = some (.slice 132) := by kernel_rfl
theorem el_S_bdd_node : elemOfA Tryz.prog 122 = some 1 := by kernel_rfl
theorem tk_M_bdd_node_int : tk Tryz.prog 123 = .one := by kernel_rfl
theorem ze_bdd_Store : zeroOf Tryz.prog 125 = some [.int .i64 0, .nils, .nilm] := by kernel_rfl
theorem fo_bdd_Store_0 : fieldOff Tryz.prog 125 0 = some 0 := by kernel_rfl
theorem fo_bdd_Store_1 : fieldOff Tryz.prog 125 1 = some 1 := by kernel_rfl
theorem fo_bdd_Store_2 : fieldOff Tryz.prog 125 2 = some 2 := by kernel_rfl
theorem st_bdd_Store : StT Tryz.prog 125 [(0, 1), (1, 1), (2, 1)] [.int .i64 0, .nils, .nilm] := ⟨⟨_, Tryz.underlying125, by kernel_rfl, by kernel_rfl⟩, ze_bdd_Store⟩
theorem tk_bdd_node : tk Tryz.prog 132 = .one := by kernel_rfl
theorem ze_bdd_node : zeroOf Tryz.prog 132 = some [.nili] := by kernel_rfl
theorem ze_bdd_leaf : zeroOf Tryz.prog 193 = some [.int .i64 0] := by kernel_rfl
theorem fo_bdd_leaf_0 : fieldOff Tryz.prog 193 0 = some 0 := by kernel_rfl
theorem st_bdd_leaf : StT Tryz.prog 193 [(0, 1)] [.int .i64 0] := ⟨⟨_, Tryz.underlying193, by kernel_rfl, by kernel_rfl⟩, ze_bdd_leaf⟩
theorem sz_bdd_fork : sizeA Tryz.prog 195 = some 3 := by kernel_rfl
theorem ze_bdd_fork : zeroOf Tryz.prog 195 = some [.int .i64 0, .int .i64 0, .int .i64 0] := by kernel_rfl
theorem fo_bdd_fork_0 : fieldOff Tryz.prog 195 0 = some 0 := by kernel_rfl
theorem fo_bdd_fork_1 : fieldOff Tryz.prog 195 1 = some 1 := by kernel_rfl
theorem fo_bdd_fork_2 : fieldOff Tryz.prog 195 2 = some 2 := by kernel_rfl
theorem st_bdd_fork : StT Tryz.prog 195 [(0, 1), (1, 1), (2, 1)] [.int .i64 0, .int .i64 0, .int .i64 0] := ⟨⟨_, Tryz.underlying195, by kernel_rfl, by kernel_rfl⟩, ze_bdd_fork⟩
theorem sl_S_bool : SlT Tryz.prog 22 4 1 := ⟨un_S_bool, by kernel_rfl, ⟨_, ze_bool, rfl⟩, by kernel_rfl, by decide, by decide +kernel⟩
theorem sl_S_sibylref20_pair : SlT Tryz.prog 78 77 2 := ⟨un_S_sibylref20_pair, by kernel_rfl, ⟨_, ze_sibylref20_pair, rfl⟩, by kernel_rfl, by decide, by decide +kernel⟩
theorem sl_S_bdd_node : SlT Tryz.prog 122 132 1 := ⟨un_S_bdd_node, by kernel_rfl, ⟨_, ze_bdd_node, rfl⟩, by kernel_rfl, by decide, by decide +kernel⟩
end Go.Proofs.YtiknomepbklibaaGreatDoor
end
section
namespace Go.Proofs.YtiknomepbklibaaGreatDoor
open Go Go.RowKit
set_option linter.unusedVariables false
set_option linter.unusedSectionVars false
set_option maxRecDepth 100000

/-- A type of maps: how its keys are written. -/
structure KeyT (P : Program) (t : TypeId) {α : Type} (key : α → AV) (z : AV) : Prop where
  rule : ∃ kt et d, P.underlying t = some (.map kt et) ∧ P.underlying kt = some d ∧ zeroV P et = some z ∧ (∀ a, keyOkP P kt d (key a) = true) ∧ (∀ a i, findP P kt d (key a) [] i = some none) ∧
    ∀ a b v n es i, (a = b → findP P kt d (key a) ((key b, v, n) :: es) i = some (some (i, v))) ∧ (a ≠ b → findP P kt d (key a) ((key b, v, n) :: es) i = findP P kt d (key a) es (i + 1))
section
variable {α : Type} {key : α → AV}
def EntK (key : α → AV) (es : List (AV × AV × Nat)) (L : List (α × AV)) : Prop := es.map prE = L.map fun x => (key x.1, x.2)
open Classical in
noncomputable def lkK : List (α × AV) → α → Option AV
 | [], _ => none
 | x :: L, a => if x.1 = a then some x.2 else lkK L a
theorem lkK_mem : ∀ {L : List (α × AV)} {a : α} {v : AV}, lkK L a = some v → (a, v) ∈ L
 | [], a, v, h => by cases h
 | x :: L, a, v, h => by
  rw [lkK] at h
  split at h
  ·rename_i e
   injection h with h
   subst e h
   simp
  ·exact List.mem_cons_of_mem _ (lkK_mem h)
theorem lkK_none : ∀ {L : List (α × AV)} {a : α}, lkK L a = none → ∀ v, (a, v) ∉ L
 | [], a, _, v => by simp
 | x :: L, a, h, v => by
  rw [lkK] at h
  split at h
  ·cases h
  ·rename_i e
   intro hm
   rcases List.mem_cons.1 hm with e' | hm
   ·exact e (by rw [← e'])
   ·exact lkK_none h v hm
theorem EntK.snoc {es : List (AV × AV × Nat)} {L : List (α × AV)} (h : EntK key es L) (a : α) (v : AV) (n : Nat) : EntK key (es ++ [(key a, v, n)]) (L ++ [(a, v)]) := by
 unfold EntK at h ⊢
 rw [List.map_append, List.map_append, h]; rfl
theorem KeyT.find {P : Program} {t : TypeId} {z : AV} {kt et : TypeId} {d : TypeDesc} (h0 : ∀ a i, findP P kt d (key a) [] i = some none) (h1 : ∀ a b v n es i, (a = b → findP P kt d (key a) ((key b, v, n) :: es) i = some (some (i, v))) ∧ (a ≠ b → findP P kt d (key a) ((key b, v, n) :: es) i = findP P kt d (key a) es (i + 1))) (a : α) : ∀ (L : List (α × AV)) (es : List (AV × AV × Nat)) (i : Nat), EntK key es L →
  (lkK L a = none → findP P kt d (key a) es i = some none) ∧ ∀ v, lkK L a = some v → ∃ j, findP P kt d (key a) es i = some (some (j, v))
 | [], es, i, h => by
  cases es with
  | nil => exact ⟨fun _ => h0 a i, fun v hv => (by cases hv)⟩
  | cons e es => cases h
 | x :: L, es, i, h => by
  cases es with
  | nil => cases h
  | cons e es =>
   obtain ⟨e1, e2, e3⟩ := e
   unfold EntK at h
   rw [List.map_cons, List.map_cons] at h
   injection h with h h'
   injection h with h3 h4
   have h3 : e1 = key x.1 := h3
   have h4 : e2 = x.2 := h4
   subst h3 h4
   obtain ⟨k1, k2⟩ := h1 a x.1 x.2 e3 es i
   rw [lkK]
   split
   ·rename_i e
    exact ⟨fun h => (by cases h), fun v hv => (by injection hv with hv; subst hv; exact ⟨i, k1 e.symm⟩)⟩
   ·rename_i e
    rw [k2 fun h => e h.symm]
    exact KeyT.find (t := t) (z := z) (et := et) h0 h1 a L es (i + 1) h'
/-- A map. -/
def mpO (cm : Nat) (key : α → AV) (L : List (α × AV)) : Ob := ⟨fun c => c = cm, fun h => ∃ es n, h cm = some (.map es n) ∧ EntK key es L, fun h h' e ⟨es, n, h1, h2⟩ => ⟨es, n, by rw [e cm rfl]; exact h1, h2⟩⟩
theorem os_lookK {P : Program} {G : Env} {K : List (Nat × AV)} {st : St} {t : TypeId} {z : AV} (T : KeyT P t key z) {cm : Nat} {L : List (α × AV)} {a : α} {m k : Operand} (hH : (mpO cm key L).H st.h.get) (hm : opK G K m = some (.mp cm)) (hk : opK G K k = some (key a)) :
  OpS P G K (.lookup t m k true) st (.tup [(lkK L a).getD z, .bool (lkK L a).isSome]) st := .of fun T' hT c d ty pos af g => by
 obtain ⟨kt, et, d', u1, u2, u3, u4, u5, u6⟩ := T.rule
 obtain ⟨es, n, hc, he⟩ := hH
 show (ob (opd G T' m) fun m => ob (opd G T' k) fun k => ret (lookupA P t m k true st.h.get) st) = _
 rw [hT.opd hm, hT.opd hk, ob_some, ob_some]
 unfold lookupA
 obtain ⟨f1, f2⟩ := KeyT.find (P := P) (t := t) (z := z) (et := et) u5 u6 a L es 0 he
 simp only [u1, u2, u4, need_true', hc, ob_some]
 cases hl : lkK L a with
 | none => rw [f1 hl]; simp only [ob_some, u3, Option.getD_none, Option.isSome_none]; rfl
 | some v =>
  obtain ⟨j, f⟩ := f2 v hl
  rw [f]; rfl
noncomputable def mapStK (st : St) (cm n : Nat) (es : List (AV × AV × Nat)) (k v : AV) : St := ⟨st.n, st.h.set cm (.map (es ++ [(k, v, n)]) (n + 1))⟩
theorem os_mapK {P : Program} {G : Env} {K : List (Nat × AV)} {st : St} {t : TypeId} {z : AV} (T : KeyT P t key z) {cm n : Nat} {es : List (AV × AV × Nat)} {L : List (α × AV)} {a : α} {v : AV} {m k x : Operand} (hc : st.h.get cm = some (.map es n)) (he : EntK key es L) (hm : opK G K m = some (.mp cm)) (hk : opK G K k = some (key a)) (hx : opK G K x = some v) (hv : isCell v = true) (hn : lkK L a = none) :
  OpS P G K (.mapUpdate t m k x) st (.tup []) (mapStK st cm n es (key a) v) := .of fun T' hT c d ty pos af g => by
 obtain ⟨kt, et, d', u1, u2, u3, u4, u5, u6⟩ := T.rule
 show (ob (opd G T' m) fun m => ob (opd G T' k) fun k => ob (opd G T' x) fun x => mapUpdA P t m k x st) = _
 rw [hT.opd hm, hT.opd hk, hT.opd hx, ob_some, ob_some, ob_some]
 unfold mapUpdA mapStK
 obtain ⟨f1, f2⟩ := KeyT.find (P := P) (t := t) (z := z) (et := et) u5 u6 a L es 0 he
 simp only [u1, u2, u4, need_true', hc, ob_some, f1 hn, hv, Bool.true_or, sList_eq, appL_eq, sNat_eq, withCls_eq]
section
variable {P : Program} {G : Env} {N : Nat} {st0 st : St} {X0 : Fp} {M : Rows2} {Os : List Ob} {T : Tr AV} {ops rest : List Oper} {K : List (Nat × AV)} {R : Tr AV → St → Prop} {t ty : TypeId} {pos : String} {af : Array Edge} {z v : AV} {cm j : Nat} {L : List (α × AV)} {a : α} {m k x : Operand} {sn : List St} {i : Nat} {r : List (Nat × Nat)}
theorem MemO.mapPut (B : MemO st0 X0 st M Os) (hj : Os[j]? = some (mpO cm key L)) {es : List (AV × AV × Nat)} {n : Nat} (hc : st.h.get cm = some (.map es n)) (he : EntK key es L) (a : α) (v : AV) : MemO st0 X0 (mapStK st cm n es (key a) v) M (Os.set j (mpO cm key (L ++ [(a, v)]))) := by
 have hg : ∀ c, (mapStK st cm n es (key a) v).h.get c = if c = cm then some (.map (es ++ [(key a, v, n)]) (n + 1)) else st.h.get c := fun c => Tr.get_set _ _ _ _
 have hcm : cm < st.n := B.hi_ hj cm rfl
 refine B.call hj ⟨fun c hc => ?_, Nat.le_refl _, fun c hc hF => ?_⟩ ⟨_, _, (hg cm).trans (if_pos rfl), he.snoc a v n⟩ fun c hc => ⟨.inl hc, ?_⟩
 ·have hc : st.n ≤ c := hc
  rw [hg, if_neg (by omega)]
  exact B.fresh c hc
 ·have hF : ¬ c = cm := hF
  rw [hg, if_neg hF]
 ·have hc : c = cm := hc
  rw [hc]; exact hcm
theorem wr_mapK (hK : KnT K T) (B : MemO st0 X0 st M Os) (hj : Os[j]? = some (mpO cm key L)) (Tk : KeyT P t key z) (hm : opK G K m = some (.mp cm)) (hk : opK G K k = some (key a)) (hx : opK G K x = some v) (hv : isCell v = true) (hn : lkK L a = none)
  (hr : ∀ st', MemO st0 X0 st' M (Os.set j (mpO cm key (L ++ [(a, v)]))) → WR P G N ops rest R T st') : WR P G N ops (⟨none, .mapUpdate t m k x, ty, pos, af, none⟩ :: rest) R T st := by
 obtain ⟨es, n, hc, he⟩ := B.at_ hj
 exact wr_do hK (os_mapK Tk hc he hm hk hx hv hn) (hr _ (B.mapPut hj hc he a v))
/-- A new map. -/
theorem os_makeK : OpS P G K (.makeMap t none) st (.mp st.n) ⟨st.n + 1, st.h.set st.n (.map [] 0)⟩ := .of fun T hT c d ty pos af g => by
  show makeMapA st = _
  unfold makeMapA
  rw [newCls_eq]
theorem MemO.mapNew (B : MemO st0 X0 st M Os) (key : α → AV) : MemO st0 X0 ⟨st.n + 1, st.h.set st.n (.map [] 0)⟩ M (mpO st.n key [] :: Os) := by
 have hg : ∀ c, (st.h.set st.n (.map [] 0)).get c = if c = st.n then some (.map [] 0) else st.h.get c := fun c => Tr.get_set _ _ _ _
 refine B.new ⟨fun c hc => ?_, Nat.le_succ _, fun c hc => ?_⟩ ⟨[], 0, (hg st.n).trans (if_pos rfl), rfl⟩ fun c hc => ?_
 ·have hc : st.n + 1 ≤ c := hc
  show (st.h.set st.n _).get c = none
  rw [hg, if_neg (by omega)]
  exact B.fresh c (by omega)
 ·show (st.h.set st.n _).get c = _
  rw [hg, if_neg (by omega)]
 ·have hc : c = st.n := hc
  subst hc
  exact ⟨Nat.le_refl _, Nat.lt_succ_self _⟩
theorem wr_makeK {d : Nat} (key : α → AV) (hK : KnT K T) (B : MemO st0 X0 st M Os) (hN : Nat.ble (d + 1) N = true) (hr : ∀ (c : Nat) T' st', KnT ((d, .mp c) :: K) T' → MemO st0 X0 st' M (mpO c key [] :: Os) → WR P G N ops rest R T' st') : WR P G N ops (⟨some d, .makeMap t none, ty, pos, af, none⟩ :: rest) R T st :=
 wr_op hK os_makeK (Nat.le_of_ble_eq_true hN) fun T' hT' => hr _ T' _ hT' (B.mapNew key)
end
end
/-! Kinds of keys. -/
end Go.Proofs.YtiknomepbklibaaGreatDoor
end
