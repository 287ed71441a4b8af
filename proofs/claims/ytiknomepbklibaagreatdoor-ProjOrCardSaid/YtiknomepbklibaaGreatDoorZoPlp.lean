/-
  Pools: the program's answers.
-/
import Derived.Test.YtiknomepbklibaaGreatDoorZoPlo
namespace Go.Proofs.YtiknomepbklibaaGreatDoor
open Go Go.RowKit
set_option linter.unusedVariables false
set_option linter.unusedSimpArgs false
set_option linter.unnecessarySimpa false
set_option maxRecDepth 100000
set_option maxHeartbeats 1000000

def getZ (L : List (List Int)) (i : Int) : List Int := if 0 ≤ i then (L[i.toNat]?).getD [] else []
theorem getZ_at {L : List (List Int)} {i : Int} {s : List Int} (h0 : 0 ≤ i) (h : L[i.toNat]? = some s) : getZ L i = s := by rw [getZ, if_pos h0, h]; rfl
theorem getZ_off {L : List (List Int)} {i : Int} (h : i < 0 ∨ (L.length : Int) ≤ i) : getZ L i = [] := by
 rw [getZ]
 by_cases h0 : 0 ≤ i
 ·rw [if_pos h0, List.getElem?_eq_none (by omega)]; rfl
 ·rw [if_neg h0]
theorem Mem.noMap {h0 : Hp} {n0 : Nat} {X : List Nat} {st : St} {M : Rows1} (hM : Mem h0 n0 X st M) {cm k : Nat} {es : List (AV × AV × Nat)} (hm : st.h.get cm = some (.map es k)) : cm ∉ M.map Prod.fst := by
 intro hc
 obtain ⟨⟨c, m, l⟩, h1, h2⟩ := List.mem_map.1 hc
 exact Row1.noMap (hM.row c m l h1) hm h2
/-- A row that is said lies apart from rows ahead of it. -/
theorem Mem.apartZ {h0 : Hp} {n0 n1 : Nat} {X : List Nat} {st : St} {Lr A' A2 B : Rows1} (hM : Mem h0 n0 X st (Lr ++ (A' ++ (A2 ++ B)))) {v : AV} {s : List Int} (hA2 : ZAcc n1 A2 v s) : ∀ c m o n y, v = .sl c m o n y → n1 ≤ c ∧ c < st.n ∧ ∀ m' l', (c, m', l') ∉ A' := by
  intro c m o n y e
  cases hA2 with
  | none => cases e
  | own hc hb =>
    rename_i c2 m2 rest
    injection e with e1
    subst e1
    refine ⟨hc, hM.lt c2 m2 (s.map zAV ++ rest) (by simp), fun m' l' hm => ?_⟩
    have hn := hM.nodup
    rw [List.map_append, List.map_append, List.map_append] at hn
    have h2 := (List.nodup_append.1 hn).2.1
    exact (List.nodup_append.1 h2).2.2 c2 (List.mem_map.2 ⟨_, hm, rfl⟩) c2 (by simp) rfl
theorem PoolAt.grow {st st4 : St} {F : Nat → Prop} {cp cm k : Nat} {ks ks' v : AV} {es : List (AV × AV × Nat)} {A A' : Rows1} {vs : List AV} {L : List (List Int)} {s : List Int}
  (hFn : ∀ c, F c → c < st.n) (hFp : F cp) (hFm : F cm) (hrow : Row1 st.h.get cp 0 [ks, .mp cm]) (hmap : st.h.get cm = some (.map es k)) (hent : es.map prE = entsF 0 L) (hS : SetsAt st.h.get F cp A ks vs L) (hnd : L.Nodup) (hnf : numF 0 L s = none)
  (hx : ∀ c, c < st.n → c ≠ cp → c ≠ cm → (∀ m l, (c, m, l) ∉ A) → st4.h.get c = st.h.get c) (hrow4 : Row1 st4.h.get cp 0 [ks', .mp cm]) (hm4 : st4.h.get cm = some (.map (es ++ [(.str (keyN s), .int .i64 ((L.length : Nat) : Int), k)]) (k + 1)))
  (hA4 : AccX A' ks' (vs ++ [v])) (hAr : ∀ c m l, (c, m, l) ∈ A' → Row1 st4.h.get c m l) (hAn : ∀ c m l, (c, m, l) ∈ A' → (∃ m l, (c, m, l) ∈ A) ∨ st.n ≤ c) (hv : RdR st4.h.get [] 1 (zC s) v) (hvz : In64 s) (hvn : v = .nils ∨ ∃ c m o n, v = .sl c m o n 1)
  (hvc : ∀ c m o n y, v = .sl c m o n y → st.n ≤ c ∧ c < st4.n ∧ ∀ m' l', (c, m', l') ∉ A') (hf4 : Fresh st4) (hle : st.n ≤ st4.n) : PoolAt st4.h.get (fun c => F c ∨ (st.n ≤ c ∧ c < st4.n)) cp (L ++ [s]) ∧ ChgF F st st4 := by
 have hcpn := hFn cp hFp
 refine ⟨⟨ks', cm, _, _, A', vs ++ [v], hrow4, .inl hFp, .inl hFm, hm4, ?_, ?_, ?_⟩, hf4, hle, fun c hc hF => ?_⟩
 ·rw [List.map_append, hent, entsF_snoc, Nat.zero_add]; rfl
 ·refine hS.snoc hA4 (fun c m l hm => ?_) (fun c h => .inl h) (fun c h1 h2 h3 ro ms h4 => ?_) hv hvz hvn (fun c m o n y e => ?_)
  ·have hr := hAr c m l hm
   rcases hAn c m l hm with ⟨m2, l2, h⟩ | h
   ·obtain ⟨_, k2, k3⟩ := hS.row c m2 l2 h
    exact ⟨hr, .inl k2, k3, .inl ⟨m2, l2, h⟩⟩
   ·exact ⟨hr, .inr ⟨h, hr.lt hf4⟩, by omega, .inr fun hF => by have := hFn c hF; omega⟩
  ·refine hx c (hFn c h1) h2 ?_ h3
   rintro rfl
   rw [h4] at hmap; cases hmap
  ·obtain ⟨k1, k2, k3⟩ := hvc c m o n y e
   exact ⟨.inr ⟨k1, k2⟩, by omega, k3⟩
 ·refine List.nodup_append.2 ⟨hnd, by simp, fun a ha b hb e => ?_⟩
  rw [List.mem_singleton] at hb
  subst hb e
  exact numF_none hnf ha
 ·refine hx c hc (fun e => hF (e ▸ hFp)) (fun e => hF (e ▸ hFm)) fun m l hm => hF (hS.row c m l hm).2.1
theorem ZAcc.ge {n0 : Nat} {A : Rows1} {ks : AV} {l : List Int} (h : ZAcc n0 A ks l) {c m : Nat} {x : List AV} (hm : (c, m, x) ∈ A) : n0 ≤ c := by
 cases h with
 | none => cases hm
 | own hc hb => simp at hm; omega
theorem sorted_in64 {l : List Int} (h : In64 l) : In64 (sortedZ l) := fun z hz => h z ((mem_sortedZ l z).1 hz)
section
variable {P : Program} {G : Env} {N : Nat} {st : St} {T : Tr AV} {ops rest : List Oper} {K : List (Nat × AV)} {R : Tr AV → St → Prop} {d : Nat} {ty t : TypeId} {pos : String} {af : Array Edge}
noncomputable def newMap (st : St) : St := ⟨st.n + 1, st.h.set st.n (.map [] 0)⟩
theorem newMap_fresh (hf : Fresh st) : Fresh (newMap st) := fun c hle => by
 have hle : st.n + 1 ≤ c := hle
 show (st.h.set st.n _).get c = none
 rw [set_upd, upd_ne _ _ (by omega)]
 exact hf c (by omega)
theorem newMap_qt (hf : Fresh st) : Qt st (newMap st) := ⟨newMap_fresh hf, Nat.le_succ _, fun c hc => by
 show (st.h.set st.n _).get c = _
 rw [set_upd, upd_ne _ _ (by omega)]⟩
theorem wr_makeMap (hK : KnT K T) (hN : Nat.ble (d + 1) N = true) (hn : ∀ T', KnT ((d, .mp st.n) :: K) T' → WR P G N ops rest R T' (newMap st)) : WR P G N ops (⟨some d, .makeMap t none, ty, pos, af, none⟩ :: rest) R T st :=
 wr_op (v := .mp st.n) (st1 := newMap st) hK (.of fun T hT c d ty pos af g => by
  show makeMapA st = _
  unfold makeMapA
  rw [newCls_eq]; rfl) (Nat.le_of_ble_eq_true hN) hn
end

theorem lenP_ev {st : St} (hf : Fresh st) {F : Nat → Prop} {cp : Nat} {L : List (List Int)} (hP : PoolAt st.h.get F cp L) : ∃ v st', Ev Tryz.prog envP 39 [.ptr cp 0 0] st v st' ∧ v = .int .i64 ((L.length : Nat) : Int) ∧ Qt st st' := by
 obtain ⟨ks, cm, es, k, A, vs, hrow, hFp, hFm, hmap, hent, hS, hnd⟩ := hP
 refine ev_fn rfl Tryz.func39 rfl Tryz.ntmps39 rfl (by decide) (by simp) fun T hT => ?_
 have K : KnT [(0, _)] T := (.cons (hT 0) .nil)
 have M := Mem.start hf
 refine w_seq <| w_region <| o1 K (os_assign rfl) rfl fun _ K => wr_nil ?_
 show W _ _ _ _ _ _ _
 refine w_seq <| w_seq <| w_region <| o1 K (os_move rfl) rfl fun _ K => o1 K (os_eqPN un_P_pool_Pool rfl rfl) rfl fun _ K => wr_nil ?_
 show W _ _ _ _ _ _ _
 refine w_cond (t := false) (K.opd rfl) (fun h => by cases h) (fun _ => ?_)
 refine w_skip ?_
 show W _ _ _ _ _ _ _
 refine w_seq <| w_region <| o1 K (os_move rfl) rfl fun _ K => o1 K (os_nil rfl rfl) rfl fun _ K => o1 K (os_fieldAddr fo_pool_Pool_0 rfl) rfl fun _ K => o1 K (os_load rfl (ld_row (M.rowX (by simp) hrow.rowV) (part_one tk_S_S_int rfl))) rfl fun _ K => o1 K (os_lenL un_S_S_int rfl rfl hS.len) rfl fun _ K => o1 K (os_assign rfl) rfl fun _ K => wr_nil ?_
 show W _ _ _ _ _ _ _
 refine w_ret ?_
 refine ⟨.inr rfl, _, (res_one (rs_tmp K rfl)), ?_⟩
 exact ⟨rfl, M.qt⟩

theorem getP_ev {st : St} (hf : Fresh st) {F : Nat → Prop} {cp : Nat} {L : List (List Int)} (hP : PoolAt st.h.get F cp L) (hbd : ∀ s ∈ L, s.length ≤ 100000) (hFn : ∀ c, F c → c < st.n) (id : Int) : ∃ v st', Ev Tryz.prog envP 40 [.ptr cp 0 0, .int .i64 id] st v st' ∧ ∃ ks, v = ks ∧ NewR st st' 1 ks (zC (getZ L id)) ∧ Qt st st' := by
 have hP0 := hP
 obtain ⟨ks, cm, es, k, A, vs, hrow, hFp, hFm, hmap, hent, hS, hnd⟩ := hP
 refine ev_fn rfl Tryz.func40 rfl Tryz.ntmps40 rfl (by decide) (by simp) fun T hT => ?_
 have K : KnT [(0, _), (1, _)] T := (.cons (hT 0) (.cons (hT 1) .nil))
 have M := Mem.start hf
 refine w_seq <| w_region <| o1 K (os_assign rfl) rfl fun _ K => wr_nil ?_
 show W _ _ _ _ _ _ _
 refine w_seq <| w_seq <| w_region <| o1 K (os_move rfl) rfl fun _ K => o1 K (os_lss rfl rfl) rfl fun _ K => ?_
 refine oB K (os_move rfl) rfl fun b7 _ e7 K => ?_
 cases b7
 ·replace e7 := of_decide_eq_false e7
  refine og K rfl rfl (os_move rfl) rfl fun _ K => og K rfl rfl (os_move rfl) rfl fun _ K => ?_
  obtain ⟨v10, st10, ev10, rfl, q10⟩ := lenP_ev (L := L) M.fresh (hP0.frame fun c hc => M.old c (hFn c hc) (by simp))
  refine og K rfl rfl (os_call rfl ev10) rfl fun _ K => ?_
  replace M := M.quiet q10
  refine og K rfl rfl (os_geq rfl rfl) rfl fun _ K => o1 K (os_pick rfl rfl rfl) rfl fun _ K => wr_nil ?_
  show W _ _ _ _ _ _ _
  refine w_cond (K.opd rfl) (fun h12 => ?_) (fun h12 => ?_)
  ·have hb12 := h12
   replace h12 := of_decide_eq_true h12
   refine w_seq <| w_region <| o1 K (os_assign rfl) rfl fun _ K => wr_nil ?_
   show W _ _ _ _ _ _ _
   refine w_ret ?_
   refine ⟨.inr rfl, _, (res_one (rs_tmp K rfl)), ?_⟩
   refine ⟨.nils, rfl, ⟨[], ?_, fun _ _ _ h => by cases h⟩, M.qt⟩
   rw [getZ_off (by omega)]; exact .none
  have hb12 := h12
  replace h12 := of_decide_eq_false h12
  refine w_skip ?_
  show W _ _ _ _ _ _ _
  refine w_seq <| w_region <| o1 K (os_move rfl) rfl fun _ K => o1 K (os_nil rfl rfl) rfl fun _ K => o1 K (os_fieldAddr fo_pool_Pool_0 rfl) rfl fun _ K => o1 K (os_load rfl (ld_row (M.rowX (by simp) hrow.rowV) (part_one tk_S_S_int rfl))) rfl fun _ K => o1 K (os_move rfl) rfl fun _ K => ?_
  obtain ⟨s18, hi18⟩ : ∃ x, L[id.toNat]? = some x := ⟨_, List.getElem?_eq_getElem (by omega)⟩
  obtain ⟨u18, hc18, hr18, hz18, hq18, hf18⟩ := hS.inn _ _ hi18
  obtain ⟨x18, m18, f18, q18, _, la18, lo18, lp18⟩ := (RdR.mem M hS.rd (by simp)).load (i := id.toNat) (cs := [u18]) (by rw [List.getElem?_map, hc18]; rfl)
  refine o1 K (os_indexAddr (j := id.toNat) el_S_S_int (congrArg some q18) (congrArg (fun z => some (AV.int .i64 z)) (by omega : _ = ((id.toNat : Nat) : Int))) (by rw [List.length_map, hS.ln]; omega)) rfl fun _ K => o1 K (os_load rfl (lo18 _ 0 _ tk_S_int rfl)) rfl fun _ K => ?_
  obtain ⟨v20, st20, ev20, kn, rfl, nr20, q20⟩ := zClone_ev M.fresh (RdR.mem M hr18 (by simp)) (Nat.le_trans (hbd _ (List.mem_of_getElem? hi18)) (by decide))
  refine o1 K (os_call rfl ev20) rfl fun _ K => ?_
  obtain ⟨A20, hA20, M⟩ := M.callAcc q20 nr20
  refine o1 K (os_assign rfl) rfl fun _ K => wr_nil ?_
  show W _ _ _ _ _ _ _
  refine w_ret ?_
  refine ⟨.inr rfl, _, (res_one (rs_tmp K rfl)), ?_⟩
  refine ⟨_, rfl, ?_, M.qt⟩
  rw [getZ_at (by omega) hi18]
  have h := Mem.newR (L := []) (A := A20) (B := []) M hA20
  simpa using h
 replace e7 := of_decide_eq_true e7
 refine gn K rfl rfl rfl rfl fun _ K => gn K rfl rfl rfl rfl fun _ K => gn K rfl rfl rfl rfl fun _ K => gn K rfl rfl rfl rfl fun _ K => o1 K (os_pick rfl rfl rfl) rfl fun _ K => wr_nil ?_
 show W _ _ _ _ _ _ _
 refine w_cond (t := true) (K.opd rfl) (fun _ => ?_) (fun h => by cases h)
 refine w_seq <| w_region <| o1 K (os_assign rfl) rfl fun _ K => wr_nil ?_
 show W _ _ _ _ _ _ _
 refine w_ret ?_
 refine ⟨.inr rfl, _, (res_one (rs_tmp K rfl)), ?_⟩
 refine ⟨.nils, rfl, ⟨[], ?_, fun _ _ _ h => by cases h⟩, M.qt⟩
 rw [getZ_off (by omega)]; exact .none

theorem newP_ev {st : St} (hf : Fresh st) : ∃ v st', Ev Tryz.prog envP 36 [] st v st' ∧ ∃ cp, v = .ptr cp 0 0 ∧ PoolAt st'.h.get (fun c => st.n ≤ c ∧ c < st'.n) cp [] ∧ Qt st st' := by
 refine ev_fn rfl Tryz.func36 rfl Tryz.ntmps36 rfl (by decide) (by simp) fun T hT => ?_
 have K : KnT [] T := .nil
 have M := Mem.start hf
 refine w_seq <| w_region <| o1 K (os_assign rfl) rfl fun _ K => wr_nil ?_
 show W _ _ _ _ _ _ _
 refine w_seq <| w_region ?_
 refine wr_makeMap K rfl fun _ K => ?_
 have MQ := M
 have M := Mem.start (newMap_fresh hf)
 refine o1 K (os_build st_pool_Pool rfl rfl) rfl fun _ K => ?_
 refine wr_box K M rfl rfl (by decide) fun c3 _ _ K M => ?_
 refine o1 K (os_assign rfl) rfl fun _ K => wr_nil ?_
 show W _ _ _ _ _ _ _
 refine w_ret ?_
 refine ⟨.inr rfl, _, (res_one (rs_tmp K rfl)), ?_⟩
 replace M : Mem (newMap st).h.get (newMap st).n [] _ [(c3, 0, [.nils, .mp st.n])] := M
 refine ⟨_, rfl, ⟨.nils, st.n, [], 0, [], [], M.row1 (k := 0) rfl, ?_, ?_, ?_, rfl, ?_, List.Pairwise.nil⟩, (newMap_qt hf).trans M.qt⟩
 ·have h1 := M.own c3 0 [.nils, .mp st.n] (by simp); have h2 := M.lt c3 0 [.nils, .mp st.n] (by simp); have h3 : (newMap st).n = st.n + 1 := rfl; simp at h1; exact ⟨by omega, h2⟩
 ·exact ⟨Nat.le_refl _, Nat.lt_of_lt_of_le (Nat.lt_succ_self _) M.le⟩
 ·rw [M.old st.n (Nat.lt_succ_self _) (by simp)]; show (st.h.set st.n _).get st.n = _; rw [set_upd]; exact upd_self _ _ _
 ·exact ⟨.none, (fun c m l h => by cases h), rfl, (fun i s h => by simp at h)⟩

theorem ofP_ev {st : St} (hf : Fresh st) {F : Nat → Prop} {cp : Nat} {L : List (List Int)} (hP : PoolAt st.h.get F cp L) (hFn : ∀ c, F c → c < st.n) (hL : L.length ≤ 100000) {l : List Int} {kl : AV} (hl : RdR st.h.get [] 1 (zC l) kl) (hz : In64 l) (hn : l.length ≤ 100000) : ∃ v st', Ev Tryz.prog envP 61 [.ptr cp 0 0, kl] st v st' ∧ v = .int .i64 ((ofN L l : Nat) : Int) ∧ PoolAt st'.h.get (fun c => F c ∨ (st.n ≤ c ∧ c < st'.n)) cp (ofL L l) ∧ ChgF F st st' := by
 have hP0 := hP
 obtain ⟨ks, cm, es, k, A, vs, hrow, hFp, hFm, hmap, hent, hS, hnd⟩ := hP
 have hcm : cm < st.n := hFn cm hFm
 have hsz := sorted_in64 hz
 have hRw : ∀ c m x, (c, m, x) ∈ (cp, 0, [ks, .mp cm]) :: A → Row1 st.h.get c m x := by
  intro c m x h
  rcases List.mem_cons.1 h with h | h
  ·injection h with h1 h; injection h with h2 h3; subst h1 h2 h3; exact hrow
  ·exact (hS.row c m x h).1
 have hNd : (((cp, 0, [ks, .mp cm]) :: A).map Prod.fst).Nodup := by
  rw [List.map_cons]
  refine List.nodup_cons.2 ⟨fun h => ?_, hS.acc.nodup⟩
  obtain ⟨⟨c, m, x⟩, h1, h2⟩ := List.mem_map.1 h
  exact (hS.row c m x h1).2.2 h2
 refine ev_fn rfl Tryz.func61 rfl Tryz.ntmps61 rfl (by decide) (by simp) fun T hT => ?_
 have K : KnT [(0, _), (1, _)] T := (.cons (hT 0) (.cons (hT 1) .nil))
 have M := Mem.start hf
 refine w_seq <| w_region <| o1 K (os_assign rfl) rfl fun _ K => wr_nil ?_
 show W _ _ _ _ _ _ _
 refine w_seq <| w_seq <| w_region <| o1 K (os_move rfl) rfl fun _ K => o1 K (os_eqPN un_P_pool_Pool rfl rfl) rfl fun _ K => wr_nil ?_
 show W _ _ _ _ _ _ _
 refine w_cond (t := false) (K.opd rfl) (fun h => by cases h) (fun _ => ?_)
 refine w_skip ?_
 show W _ _ _ _ _ _ _
 refine w_seq <| w_region <| o1 K (os_move rfl) rfl fun _ K => ?_
 obtain ⟨v10, st10, ev10, ks10, rfl, nr10, q10⟩ := zClone_ev M.fresh (RdR.mem M hl (by simp)) (by omega)
 refine o1 K (os_call rfl ev10) rfl fun _ K => ?_
 obtain ⟨A10, hA10, M⟩ := M.callAcc q10 nr10
 refine o1 K (os_assign rfl) rfl fun _ K => wr_nil ?_
 show W _ _ _ _ _ _ _
 refine w_seq <| w_region <| o1 K (os_move rfl) rfl fun _ K => ?_
 obtain ⟨v12, st12, A12, ev12, rfl, M7, hA12⟩ := sortZ_acc (L := []) (A := A10) (B := []) M hA10 (by omega)
 refine o1 K (os_call rfl ev12) rfl fun _ K => ?_
 replace M := M7
 refine wr_nil ?_
 show W _ _ _ _ _ _ _
 refine w_seq <| w_region <| o1 K (os_move rfl) rfl fun _ K => ?_
 obtain ⟨v14, st14, A14, ev14, hA14, M9⟩ := compZ_acc (L := []) (A := A12) (B := []) M hA12 (by rw [orderZ_len]; omega)
 rw [setZ_eq] at hA14
 refine o1 K (os_call rfl ev14) rfl fun _ K => ?_
 replace M := M9
 refine o1 K (os_assign rfl) rfl fun _ K => wr_nil ?_
 show W _ _ _ _ _ _ _
 refine w_seq ?_
 refine w_drawI (l := [(4, 0), (5, 0), (0, 0), (1, 0), (2, 0), (3, 1), (6, 0), (7, 0), (8, 0), (9, 0), (10, 0), (11, 0)]) (by kernel_rfl) ?_
 have Mq := M
 refine d1 rfl K (os_move rfl) rfl rfl fun _ K => ?_
 obtain ⟨v21, st21, ev21, rfl, q21⟩ := keyZ_ev (L := []) (A := A14) (B := []) M hA14 hsz (by rw [← setZ_eq]; exact Nat.le_trans (compactI_le _) (by rw [orderZ_len]; omega))
 refine dA rfl K (os_call rfl ev21) rfl rfl fun _ K => ?_
 replace M := M.quiet q21
 have Mp := Mq
 have Mq := M
 refine d1 rfl K (os_move rfl) rfl rfl fun _ K => d1 rfl K (os_nil rfl rfl) rfl rfl fun _ K => d1 rfl K (os_fieldAddr fo_pool_Pool_1 rfl) rfl rfl fun _ K => ?_
 refine wd_load1 rfl K rfl (ld_row (M.rowX (by simp) hrow.rowV) (part_one tk_M_string_int rfl)) (ld_row (Mp.rowX (by simp) hrow.rowV) (part_one tk_M_string_int rfl)) (eqV_one rfl) rfl (by decide) fun _ K => ?_
 refine dA rfl K (os_lookupZ rfl rfl ((M.old cm hcm (by simp)).trans hmap) hent) rfl rfl fun _ K => d1 rfl K (os_move rfl) rfl rfl fun _ K => d1 rfl K (os_extract rfl rfl) rfl rfl fun _ K => d1 rfl K (os_extract rfl rfl) rfl rfl fun _ K => d1 rfl K (os_assign rfl) rfl rfl fun _ K => d1 rfl K (os_assign rfl) rfl rfl fun _ K => wd_nil ?_
 show W _ _ _ _ _ _ _
 refine w_seq <| w_seq <| w_region <| o1 K (os_move rfl) rfl fun _ K => o1 K (os_not rfl) rfl fun _ K => wr_nil ?_
 show W _ _ _ _ _ _ _
 refine w_cond (K.opd rfl) (fun h26 => ?_) (fun h26 => ?_)
 ·have hb26 := h26
  replace h26 : ((numF 0 L (sortedZ l)).isSome) = false := by first | simpa using h26 | (revert h26; cases ((numF 0 L (sortedZ l)).isSome) <;> simp)
  refine w_seq ?_
  have hnf : numF 0 L (sortedZ l) = none := by
   cases hq : numF 0 L (sortedZ l) with
   | none => rfl
   | some i => rw [hq] at h26; cases h26
  have Q1 := M.qt
  have hmap1 := ((M.old cm hcm (by simp)).trans hmap)
  have hcm1 := Nat.lt_of_lt_of_le hcm Q1.le
  have M := Mem.withOld hf M ((cp, 0, [ks, .mp cm]) :: A) hRw hNd
  replace M := Mem.cast (M' := ((cp, 0, [ks, (.mp cm)]) :: (A ++ (A14 ++ [])))) M (by first | rfl | simp)
  have hcX := Mem.noMap M hmap1
  have hcX : cm ∉ List.map Prod.fst (((cp, 0, [ks, .mp cm]) :: A) ++ (A14 ++ [])) := by simpa using hcX
  refine w_region <| o1 K (os_move rfl) rfl fun _ K => o1 K (os_nil rfl rfl) rfl fun _ K => o1 K (os_fieldAddr fo_pool_Pool_0 rfl) rfl fun _ K => o1 K (os_load rfl (M.load (k := 0) rfl (part_one tk_S_S_int rfl))) rfl fun _ K => o1 K (os_lenL un_S_S_int rfl rfl hS.len) rfl fun _ K => o1 K (os_assign rfl) rfl fun _ K => wr_nil ?_
  show W _ _ _ _ _ _ _
  refine w_seq ?_
  refine w_drawI (l := [(4, 0), (5, 0), (0, 0), (1, 0), (2, 0), (3, 1), (6, 0), (7, 0)]) (by kernel_rfl) ?_
  have Mq := M
  refine d1 rfl K (os_move rfl) rfl rfl fun _ K => ?_
  obtain ⟨v37, st37, ev37, rfl, q37⟩ := keyZ_ev (L := ((cp, 0, [ks, (.mp cm)]) :: (A ++ []))) (A := A14) (B := []) (Mem.cast (M := ((cp, 0, [ks, (.mp cm)]) :: (A ++ (A14 ++ [])))) (M' := ((cp, 0, [ks, (.mp cm)]) :: (A ++ [])) ++ (A14 ++ [])) M (by first | (simp only [List.append_assoc, List.cons_append, List.nil_append, List.append_nil, List.set_cons_zero, List.set_cons_succ]; done) | (simp only [List.append_assoc, List.cons_append, List.nil_append, List.append_nil, List.set_cons_zero, List.set_cons_succ]; rfl))) hA14 hsz (by rw [← setZ_eq]; exact Nat.le_trans (compactI_le _) (by rw [orderZ_len]; omega))
  refine dA rfl K (os_call rfl ev37) rfl rfl fun _ K => ?_
  replace M := M.quiet q37
  have Mp := Mq
  have Mq := M
  refine d1 rfl K (os_move rfl) rfl rfl fun _ K => d1 rfl K (os_nil rfl rfl) rfl rfl fun _ K => d1 rfl K (os_fieldAddr fo_pool_Pool_1 rfl) rfl rfl fun _ K => ?_
  refine wd_load1 rfl K rfl (M.load (k := 0) rfl (part_one tk_M_string_int rfl)) (Mp.load (k := 0) rfl (part_one tk_M_string_int rfl)) (eqV_one rfl) rfl (by decide) fun _ K => ?_
  refine d1 rfl K (os_move rfl) rfl rfl fun _ K => ?_
  have hmap2 := (M.old cm hcm1 hcX).trans hmap1
  have Q2 := M.chg
  refine wd_mapZ rfl K rfl rfl rfl hmap2 hent hnf ?_
  obtain ⟨M, Q3⟩ := Mem.mapped M hmap2 (sortedZ l) ((L.length : Nat) : Int)
  have Mp := Mq
  have Mq := M
  refine wd_nil ?_
  show W _ _ _ _ _ _ _
  refine w_region <| o1 K (os_move rfl) rfl fun _ K => o1 K (os_move rfl) rfl fun _ K => o1 K (os_nil rfl rfl) rfl fun _ K => o1 K (os_fieldAddr fo_pool_Pool_0 rfl) rfl fun _ K => o1 K (os_load rfl (M.load (k := 0) rfl (part_one tk_S_S_int rfl))) rfl fun _ K => o1 K (os_move rfl) rfl fun _ K => ?_
  refine wr_bs K M sl_S_S_int ze_S_int rfl ((fillA_one rfl hA14.cell rfl).trans rfl) (cl_cons hA14.cell cl_nil) rfl rfl fun c45 _ _ K M => ?_
  have hle46 := M.le
  refine wr_accX (k2 := 0) (L := [(c45, 0, [v14]), (cp, 0, [ks, (.mp cm)])]) (A := A) (B := (A14 ++ [])) K M hS.acc sl_S_S_int rfl rfl rfl (by rw [hS.ln]; omega) rfl fun ks46 A46 _ _ K hA46 hN46 M => ?_
  replace M := Mem.cast (M' := ((c45, 0, [v14]) :: (cp, 0, [ks, (.mp cm)]) :: (A46 ++ (A14 ++ [])))) M (by first | (simp only [List.append_assoc, List.cons_append, List.nil_append, List.append_nil, List.set_cons_zero, List.set_cons_succ]; done) | (simp only [List.append_assoc, List.cons_append, List.nil_append, List.append_nil, List.set_cons_zero, List.set_cons_succ]; rfl))
  refine o1 K (os_nil rfl rfl) rfl fun _ K => o1 K (os_fieldAddr fo_pool_Pool_0 rfl) rfl fun _ K => ?_
  refine wr_store1 (k := 1) K M rfl rfl rfl sz_S_S_int (hA46.cell) rfl fun _ M => ?_
  refine wr_nil ?_
  show W _ _ _ _ _ _ _
  refine w_seq <| w_region <| o1 K (os_move rfl) rfl fun _ K => o1 K (os_assign rfl) rfl fun _ K => wr_nil ?_
  show W _ _ _ _ _ _ _
  refine w_ret ?_
  refine ⟨.inr rfl, _, (res_one (rs_tmp K rfl)), ?_⟩
  have e1 : ofN L l = L.length := by rw [ofN, hnf]; rfl
  have e2 : ofL L l = L ++ [sortedZ l] := by rw [ofL, hnf]; rfl
  rw [e1, e2]
  refine ⟨rfl, ?_⟩
  have hap := Mem.apartZ (Lr := [(c45, 0, [v14]), (cp, 0, [ks46, (.mp cm)])]) (A' := A46) (A2 := A14) (B := []) M hA14
  have hq3 := Q3.le
  have hml := M.le
  have hq1 := Q1.le
  have hq2 := Q2.le
  refine PoolAt.grow hFn hFp hFm hrow hmap hent hS hnd hnf (fun c h1 h2 h3 h4 => ?_) (M.row1 (k := 1) rfl) ?_ hA46 (fun c m l h => M.row c m l (by simp [h])) (fun c m l h => ?_) (Mem.zaccR (L := ((c45, 0, [v14]) :: (cp, 0, [ks46, (.mp cm)]) :: (A46 ++ []))) (A := A14) (B := []) (Mem.cast (M := ((c45, 0, [v14]) :: (cp, 0, [ks46, (.mp cm)]) :: (A46 ++ (A14 ++ [])))) (M' := ((c45, 0, [v14]) :: (cp, 0, [ks46, (.mp cm)]) :: (A46 ++ [])) ++ (A14 ++ [])) M (by first | (simp only [List.append_assoc, List.cons_append, List.nil_append, List.append_nil, List.set_cons_zero, List.set_cons_succ]; done) | (simp only [List.append_assoc, List.cons_append, List.nil_append, List.append_nil, List.set_cons_zero, List.set_cons_succ]; rfl))) hA14) hsz hA14.nilSl hap M.fresh (by omega)
  ·have hX : c ∉ List.map Prod.fst (((cp, 0, [ks, .mp cm]) :: A) ++ (A14 ++ [])) := by
    intro hc
    obtain ⟨⟨c', m', l'⟩, k1, k2⟩ := List.mem_map.1 hc
    simp only at k2
    subst k2
    rcases List.mem_append.1 k1 with k1 | k1
    ·rcases List.mem_cons.1 k1 with k1 | k1
     ·injection k1 with k1; exact h2 k1
     ·exact h4 m' l' k1
    ·have := hA14.ge (by simpa using k1); omega
   rw [M.old c (by omega) (by simpa using hX), Q3.old c (by omega) h3, Q2.old c (by omega) (by simpa using hX)]
   exact Q1.old c h1
  ·rw [M.old cm (by omega) (by simpa using hcX)]; exact mapSt_same _ _ _ _ _ _
  ·rcases hN46 c m l h with h | h
   ·exact .inl h
   ·exact .inr (by omega)
 have hb26 := h26
 replace h26 : ((numF 0 L (sortedZ l)).isSome) = true := by first | simpa using h26 | (revert h26; cases ((numF 0 L (sortedZ l)).isSome) <;> simp)
 refine w_skip ?_
 show W _ _ _ _ _ _ _
 refine w_seq <| w_region <| o1 K (os_move rfl) rfl fun _ K => o1 K (os_assign rfl) rfl fun _ K => wr_nil ?_
 show W _ _ _ _ _ _ _
 refine w_ret ?_
 refine ⟨.inr rfl, _, (res_one (rs_tmp K rfl)), ?_⟩
 obtain ⟨i, hq⟩ : ∃ i, numF 0 L (sortedZ l) = some i := by
  cases hq : numF 0 L (sortedZ l) with
  | none => rw [hq] at h26; cases h26
  | some i => exact ⟨i, rfl⟩
 have e1 : ofN L l = (numF 0 L (sortedZ l)).getD 0 := by rw [ofN, hq]; rfl
 have e2 : ofL L l = L := by rw [ofL, hq]; rfl
 rw [e1, e2]
 refine ⟨rfl, ?_, M.qt.chgF F⟩
 have hP1 := hP0.frame fun c hc => M.old c (hFn c hc) (by simp)
 obtain ⟨ks, cm, es, k, A, vs, k1, k2, k3, k4, k5, k6, k7⟩ := hP1
 exact ⟨ks, cm, es, k, A, vs, k1, .inl k2, .inl k3, k4, k5, k6.more fun c h => .inl h, k7⟩
end Go.Proofs.YtiknomepbklibaaGreatDoor
