/-
  The reference's automata: may one be, are two one, where does a word lead to.
-/
import Derived.Test.YtiknomepbklibaaGreatDoorZoAuD
import Derived.Test.YtiknomepbklibaaGreatDoorZoPjP
namespace Go.Proofs.YtiknomepbklibaaGreatDoor
open Go Go.RowKit
set_option linter.unusedVariables false
set_option linter.unusedSimpArgs false
set_option linter.unnecessarySimpa false
set_option maxRecDepth 100000
set_option maxHeartbeats 4000000

theorem os_shlT {P : Program} {G : Env} {K : List (Nat × AV)} {st : St} {t yt : TypeId} {x y : Operand} {k : IntKind} {n : Int} (hx : opK G K x = some (.int .i64 1)) (hy : opK G K y = some (.int k n)) (h0 : 0 ≤ n) (h : n ≤ 62) : OpS P G K (.binOp .shl t x y yt) st (.int .i64 ((2 ^ n.toNat : Nat) : Int)) st := by
 obtain ⟨m, rfl⟩ : ∃ m : Nat, n = ((m : Nat) : Int) := ⟨n.toNat, by omega⟩
 exact os_shl1 hx hy (by omega)
/-- Rows that may be. -/
def RowOk (T n : Nat) (r : List Int) : Prop := r.length = 2 ^ T ∧ ∀ z ∈ r, 0 ≤ z ∧ z < n
theorem at_mem {α : Type} {Q : α → Prop} {l : List α} {i : Nat} (hi : l.length ≤ i) (h : ∀ (j : Nat) (x : α), j < i → l[j]? = some x → Q x) : ∀ x ∈ l, Q x := fun x hx => by
 obtain ⟨j, hj, rfl⟩ := List.mem_iff_getElem.1 hx
 exact h j _ (by omega) (List.getElem?_eq_getElem hj)
theorem elems_more {α : Type} {Q : α → Prop} {l : List α} {i : Nat} {x : α} (h : ∀ (j : Nat) (x : α), j < i → l[j]? = some x → Q x) (hi : l[i]? = some x) (hx : Q x) : ∀ (j : Nat) (x : α), j < i + 1 → l[j]? = some x → Q x := fun j y hj hy => by
 rcases Nat.lt_succ_iff_lt_or_eq.1 hj with h1 | h1
 ·exact h j y h1 hy
 ·subst h1
  rw [hi] at hy
  injection hy with hy
  exact hy ▸ hx
theorem rows_more {T n : Nat} {l : List (List Int)} {i : Nat} {x : List Int} (h : ∀ (j : Nat) (r : List Int), j < i → l[j]? = some r → RowOk T n r) (hi : l[i]? = some x) (hx : RowOk T n x) : ∀ (j : Nat) (r : List Int), j < i + 1 → l[j]? = some r → RowOk T n r := elems_more h hi hx
theorem r19Is_ev {st : St} (hf : Fresh st) {t : Int} {acc : List Bool} {nx : List (List Int)} {ka kn : AV} {ls : List (List AV)} (hA : RdR st.h.get [] 1 (bC acc) ka) (hN : LsR st.h.get nx kn ls) : ∃ v st', Ev Tryz.prog envP 34 [.agg [.int .i64 t, ka, kn]] st v st' ∧ ∃ b, v = .bool b ∧ (b = true → 0 ≤ t ∧ WFA ⟨t.toNat, acc, nx⟩) ∧ Qt st st' := by
 have hac := hA.cell; have hnc := hN.r.cell
 have hbnacc : (acc.length : Int) ≤ 9223372036854775807 := by have := hA.bnd; rw [bC_len] at this; exact this
 have hbn : (nx.length : Int) ≤ 9223372036854775807 := by have := hN.r.bnd; rw [hN.ln] at this; exact this
 refine ev_fn rfl Tryz.func34 rfl Tryz.ntmps34 rfl (by decide) (by simp) fun T hT => ?_
 have K : KnT [(0, _)] T := (.cons (hT 0) .nil)
 have M := Mem.start hf
 refine w_seq <| w_region ?_
 refine wr_box K M rfl (cl_cons rfl (cl_cons hA.cell (cl_cons hN.r.cell cl_nil))) (by decide) fun c1 _ _ K M => ?_
 refine o1 K (os_assign rfl) rfl fun _ K => wr_nil ?_
 show W _ _ _ _ _ _ _
 refine w_seq <| w_seq <| w_region <| o1 K (os_fieldAddr fo_api_Auto_0 rfl) rfl fun _ K => o1 K (os_load rfl (M.load (k := 0) rfl (part_one tk_int rfl))) rfl fun _ K => o1 K (os_lss rfl rfl) rfl fun _ K => ?_
 refine oB K (os_move rfl) rfl fun b8 _ e8 K => ?_
 cases b8
 ·replace e8 := of_decide_eq_false e8
  refine og K rfl rfl (os_fieldAddr fo_api_Auto_0 rfl) rfl fun _ K => og K rfl rfl (os_load rfl (M.load (k := 0) rfl (part_one tk_int rfl))) rfl fun _ K => og K rfl rfl (os_gtr rfl rfl) rfl fun _ K => o1 K (os_pick rfl rfl rfl) rfl fun _ K => ?_
  refine oB K (os_move rfl) rfl fun b13 _ e13 K => ?_
  cases b13
  ·replace e13 := of_decide_eq_false e13
   refine og K rfl rfl (os_fieldAddr fo_api_Auto_1 rfl) rfl fun _ K => og K rfl rfl (os_load rfl (M.load (k := 0) rfl (part_one tk_S_bool rfl))) rfl fun _ K => og K rfl rfl (os_lenL un_S_bool rfl rfl (hA.len.trans (congrArg some (bC_len _)))) rfl fun _ K => og K rfl rfl (os_lss rfl rfl) rfl fun _ K => o1 K (os_pick rfl rfl rfl) rfl fun _ K => ?_
   refine oB K (os_move rfl) rfl fun b19 _ e19 K => ?_
   cases b19
   ·replace e19 := of_decide_eq_false e19
    refine og K rfl rfl (os_fieldAddr fo_api_Auto_1 rfl) rfl fun _ K => og K rfl rfl (os_load rfl (M.load (k := 0) rfl (part_one tk_S_bool rfl))) rfl fun _ K => og K rfl rfl (os_lenL un_S_bool rfl rfl (hA.len.trans (congrArg some (bC_len _)))) rfl fun _ K => og K rfl rfl (os_gtr rfl rfl) rfl fun _ K => o1 K (os_pick rfl rfl rfl) rfl fun _ K => ?_
    refine oB K (os_move rfl) rfl fun b25 _ e25 K => ?_
    cases b25
    ·replace e25 := of_decide_eq_false e25
     refine og K rfl rfl (os_fieldAddr fo_api_Auto_2 rfl) rfl fun _ K => og K rfl rfl (os_load rfl (M.load (k := 0) rfl (part_one tk_S_S_int rfl))) rfl fun _ K => og K rfl rfl (os_lenL un_S_S_int rfl rfl hN.len) rfl fun _ K => og K rfl rfl (os_fieldAddr fo_api_Auto_1 rfl) rfl fun _ K => og K rfl rfl (os_load rfl (M.load (k := 0) rfl (part_one tk_S_bool rfl))) rfl fun _ K => og K rfl rfl (os_lenL un_S_bool rfl rfl (hA.len.trans (congrArg some (bC_len _)))) rfl fun _ K => og K rfl rfl (os_neI rfl rfl) rfl fun _ K => o1 K (os_pick rfl rfl rfl) rfl fun _ K => wr_nil ?_
     show W _ _ _ _ _ _ _
     refine w_cond (K.opd rfl) (fun h33 => ?_) (fun h33 => ?_)
     ·have hb33 := h33
      replace h33 : ¬ (((nx.length : Nat) : Int) = ((acc.length : Nat) : Int)) := by simpa using h33
      refine w_seq <| w_region <| o1 K (os_assign rfl) rfl fun _ K => wr_nil ?_
      show W _ _ _ _ _ _ _
      refine w_ret ?_
      refine ⟨.inr rfl, _, (res_one (rs_tmp K rfl)), ?_⟩
      exact ⟨false, rfl, (fun h => by cases h), M.qt⟩
     have hb33 := h33
     replace h33 : (((nx.length : Nat) : Int) = ((acc.length : Nat) : Int)) := by simpa using h33
     refine w_skip ?_
     show W _ _ _ _ _ _ _
     refine w_seq <| w_seq <| w_region <| o1 K (os_assign rfl) rfl fun _ K => wr_nil ?_
     show W _ _ _ _ _ _ _
     refine w_block ?_
     refine w_loop (fun mm1 T st9 => ∃ (i : Nat), mm1 = nx.length - i ∧ KnT [(1, .ptr c1 0 0), (3, .int .i64 (((i : Nat) : Int)))] T ∧ Mem st.h.get st.n [] st9 [(c1, 0, [.int .i64 t, ka, kn])] ∧ i ≤ nx.length ∧ (0 ≤ t ∧ t ≤ 6 ∧ 1 ≤ acc.length ∧ acc.length ≤ 400 ∧ nx.length = acc.length) ∧ (∀ (j : Nat) (r : List Int), j < i → nx[j]? = some r → RowOk t.toNat acc.length r)) (fun mm1 T st9 hI => ?_) _ _ _ ⟨0, rfl, (.cons (K _ _ rfl) (.cons (K _ _ rfl) .nil)), M.less (.refl _), (Nat.zero_le _), (by omega), (fun j r hj => absurd hj (Nat.not_lt_zero j))⟩
     obtain ⟨i, rfl, K, M, hi, hc, hx⟩ := hI
     have hi0 := hi
     refine w_seq <| w_seq <| w_region <| o1 K (os_move rfl) rfl fun _ K => o1 K (os_fieldAddr fo_api_Auto_2 rfl) rfl fun _ K => o1 K (os_load rfl (M.load (k := 0) rfl (part_one tk_S_S_int rfl))) rfl fun _ K => o1 K (os_lenL un_S_S_int rfl rfl hN.len) rfl fun _ K => o1 K (os_lss rfl rfl) rfl fun _ K => wr_nil ?_
     show W _ _ _ _ _ _ _
     refine w_cond (K.opd rfl) (fun h38 => ?_) (fun h38 => ?_)
     ·have hb38 := h38
      replace h38 := of_decide_eq_true h38
      refine w_skip ?_
      show W _ _ _ _ _ _ _
      refine w_seq <| w_block <| w_seq <| w_seq ?_
      refine w_drawI (l := [(0, 0), (1, 0), (2, 0), (3, 0), (4, 0), (5, 0), (6, 0), (7, 0), (8, 0), (9, 0), (10, 0)]) (by kernel_rfl) ?_
      refine d1 rfl K (os_fieldAddr fo_api_Auto_2 rfl) rfl rfl fun _ K => d1 rfl K (os_load rfl (M.load (k := 0) rfl (part_one tk_S_S_int rfl))) rfl rfl fun _ K => d1 rfl K (os_move rfl) rfl rfl fun _ K => ?_
      obtain ⟨s44, hi44⟩ : ∃ x, nx[i]? = some x := ⟨_, List.getElem?_eq_getElem (by omega)⟩
      obtain ⟨_, hc44, w44, rfl, hr44, hz44⟩ := hN.at_ _ _ hi44
      obtain ⟨x44, m44, f44, q44, _, la44, lo44, lp44⟩ := (RdR.mem M hN.r (by simp)).load (i := i) (cs := _) hc44
      refine d1 rfl K (os_indexAddr (j := i) el_S_S_int (congrArg some q44) rfl (by rw [hN.ln]; omega)) rfl rfl fun _ K => d1 rfl K (os_load rfl (lo44 _ 0 _ tk_S_int rfl)) rfl rfl fun _ K => d1 rfl K (os_lenL un_S_int rfl rfl (hr44.len.trans (congrArg some (zC_len _)))) rfl rfl fun _ K => d1 rfl K (os_fieldAddr fo_api_Auto_0 rfl) rfl rfl fun _ K => d1 rfl K (os_load rfl (M.load (k := 0) rfl (part_one tk_int rfl))) rfl rfl fun _ K => d1 rfl K (os_convW (c := t) un_uint un_int rfl (IntWalk.u64_in _ (by omega))) rfl rfl fun _ K => d1 rfl K (os_shlT rfl rfl (by omega) (by omega)) rfl rfl fun _ K => d1 rfl K (os_neI rfl rfl) rfl rfl fun _ K => wd_nil ?_
      show W _ _ _ _ _ _ _
      refine w_cond (K.opd rfl) (fun h51 => ?_) (fun h51 => ?_)
      ·have hb51 := h51
       replace h51 : ¬ (((s44.length : Nat) : Int) = (((2 ^ t.toNat) : Nat) : Int)) := by simpa using h51
       refine w_seq <| w_region <| o1 K (os_assign rfl) rfl fun _ K => wr_nil ?_
       show W _ _ _ _ _ _ _
       refine w_ret ?_
       refine ⟨.inr rfl, _, (res_one (rs_tmp K rfl)), ?_⟩
       exact ⟨false, rfl, (fun h => by cases h), M.qt⟩
      have hb51 := h51
      replace h51 : (((s44.length : Nat) : Int) = (((2 ^ t.toNat) : Nat) : Int)) := by simpa using h51
      refine w_skip ?_
      show W _ _ _ _ _ _ _
      refine w_seq <| w_region <| o1 K (os_assign rfl) rfl fun _ K => wr_nil ?_
      show W _ _ _ _ _ _ _
      refine w_block ?_
      refine w_loop (fun mm2 T st9 => ∃ (j : Nat), mm2 = s44.length - j ∧ KnT [(1, .ptr c1 0 0), (3, .int .i64 (((i : Nat) : Int))), (4, .int .i64 (((j : Nat) : Int)))] T ∧ Mem st.h.get st.n [] st9 [(c1, 0, [.int .i64 t, ka, kn])] ∧ j ≤ s44.length ∧ (∀ (q : Nat) (z : Int), q < j → s44[q]? = some z → 0 ≤ z ∧ z < acc.length)) (fun mm2 T st9 hI => ?_) _ _ _ ⟨0, rfl, (.cons (K _ _ rfl) (.cons (K _ _ rfl) (.cons (K _ _ rfl) .nil))), M.less (.refl _), (Nat.zero_le _), (fun q z hq => absurd hq (Nat.not_lt_zero q))⟩
      obtain ⟨j, rfl, K, M, hj, hy⟩ := hI
      have hsb := hr44.bnd; rw [zC_len] at hsb
      refine w_seq <| w_seq <| w_region <| o1 K (os_move rfl) rfl fun _ K => o1 K (os_fieldAddr fo_api_Auto_2 rfl) rfl fun _ K => o1 K (os_load rfl (M.load (k := 0) rfl (part_one tk_S_S_int rfl))) rfl fun _ K => o1 K (os_move rfl) rfl fun _ K => ?_
      obtain ⟨_, hc56, w56, rfl, hr56, hz56⟩ := hN.at_ _ _ hi44
      obtain ⟨x56, m56, f56, q56, _, la56, lo56, lp56⟩ := (RdR.mem M hN.r (by simp)).load (i := i) (cs := _) hc56
      refine o1 K (os_indexAddr (j := i) el_S_S_int (congrArg some q56) rfl (by rw [hN.ln]; omega)) rfl fun _ K => o1 K (os_load rfl (lo56 _ 0 _ tk_S_int rfl)) rfl fun _ K => o1 K (os_lenL un_S_int rfl rfl (hr56.len.trans (congrArg some (zC_len _)))) rfl fun _ K => o1 K (os_lss rfl rfl) rfl fun _ K => wr_nil ?_
      show W _ _ _ _ _ _ _
      refine w_cond (K.opd rfl) (fun h59 => ?_) (fun h59 => ?_)
      ·have hb59 := h59
       replace h59 := of_decide_eq_true h59
       refine w_skip ?_
       show W _ _ _ _ _ _ _
       refine w_seq <| w_block <| w_seq ?_
       refine w_drawI (l := [(0, 0), (1, 0), (2, 0), (3, 0), (4, 0), (5, 0), (6, 0), (7, 0), (8, 0), (9, 0), (10, 0), (11, 0), (12, 0), (13, 0), (14, 0), (15, 0), (16, 0), (17, 0), (18, 0), (19, 0), (20, 0), (21, 0), (22, 0)]) (by kernel_rfl) ?_
       refine d1 rfl K (os_fieldAddr fo_api_Auto_2 rfl) rfl rfl fun _ K => d1 rfl K (os_load rfl (M.load (k := 0) rfl (part_one tk_S_S_int rfl))) rfl rfl fun _ K => d1 rfl K (os_move rfl) rfl rfl fun _ K => ?_
       obtain ⟨_, hc65, w65, rfl, hr65, hz65⟩ := hN.at_ _ _ hi44
       obtain ⟨x65, m65, f65, q65, _, la65, lo65, lp65⟩ := (RdR.mem M hN.r (by simp)).load (i := i) (cs := _) hc65
       refine d1 rfl K (os_indexAddr (j := i) el_S_S_int (congrArg some q65) rfl (by rw [hN.ln]; omega)) rfl rfl fun _ K => d1 rfl K (os_load rfl (lo65 _ 0 _ tk_S_int rfl)) rfl rfl fun _ K => d1 rfl K (os_move rfl) rfl rfl fun _ K => ?_
       obtain ⟨y68, hi68⟩ : ∃ x, s44[j]? = some x := ⟨_, List.getElem?_eq_getElem (by omega)⟩
       obtain ⟨x68, m68, f68, q68, _, la68, lo68, lp68⟩ := (RdR.mem M hr65 (by simp)).load (i := j) (cs := _) (zC_get hi68)
       refine d1 rfl K (os_indexAddr (j := j) el_S_int (congrArg some q68) rfl (by rw [zC_len]; omega)) rfl rfl fun _ K => d1 rfl K (os_load rfl (lo68 _ 0 _ tk_int rfl)) rfl rfl fun _ K => d1 rfl K (os_lss rfl rfl) rfl rfl fun _ K => ?_
       refine dB rfl K (os_move rfl) rfl rfl fun b71 _ e71 K => ?_
       cases b71
       ·replace e71 := of_decide_eq_false e71
        refine dg rfl K rfl rfl (os_fieldAddr fo_api_Auto_2 rfl) rfl rfl fun _ K => dg rfl K rfl rfl (os_load rfl (M.load (k := 0) rfl (part_one tk_S_S_int rfl))) rfl rfl fun _ K => dg rfl K rfl rfl (os_move rfl) rfl rfl fun _ K => ?_
        obtain ⟨_, hc75, w75, rfl, hr75, hz75⟩ := hN.at_ _ _ hi44
        obtain ⟨x75, m75, f75, q75, _, la75, lo75, lp75⟩ := (RdR.mem M hN.r (by simp)).load (i := i) (cs := _) hc75
        refine dg rfl K rfl rfl (os_indexAddr (j := i) el_S_S_int (congrArg some q75) rfl (by rw [hN.ln]; omega)) rfl rfl fun _ K => dg rfl K rfl rfl (os_load rfl (lo75 _ 0 _ tk_S_int rfl)) rfl rfl fun _ K => dg rfl K rfl rfl (os_move rfl) rfl rfl fun _ K => ?_
        obtain ⟨x78, m78, f78, q78, _, la78, lo78, lp78⟩ := (RdR.mem M hr75 (by simp)).load (i := j) (cs := _) (zC_get hi68)
        refine dg rfl K rfl rfl (os_indexAddr (j := j) el_S_int (congrArg some q78) rfl (by rw [zC_len]; omega)) rfl rfl fun _ K => dg rfl K rfl rfl (os_load rfl (lo78 _ 0 _ tk_int rfl)) rfl rfl fun _ K => dg rfl K rfl rfl (os_fieldAddr fo_api_Auto_1 rfl) rfl rfl fun _ K => dg rfl K rfl rfl (os_load rfl (M.load (k := 0) rfl (part_one tk_S_bool rfl))) rfl rfl fun _ K => dg rfl K rfl rfl (os_lenL un_S_bool rfl rfl (hA.len.trans (congrArg some (bC_len _)))) rfl rfl fun _ K => dg rfl K rfl rfl (os_geq rfl rfl) rfl rfl fun _ K => d1 rfl K (os_pick rfl rfl rfl) rfl rfl fun _ K => wd_nil ?_
        show W _ _ _ _ _ _ _
        refine w_cond (K.opd rfl) (fun h84 => ?_) (fun h84 => ?_)
        ·have hb84 := h84
         replace h84 := of_decide_eq_true h84
         refine w_seq <| w_region <| o1 K (os_assign rfl) rfl fun _ K => wr_nil ?_
         show W _ _ _ _ _ _ _
         refine w_ret ?_
         refine ⟨.inr rfl, _, (res_one (rs_tmp K rfl)), ?_⟩
         exact ⟨false, rfl, (fun h => by cases h), M.qt⟩
        have hb84 := h84
        replace h84 := of_decide_eq_false h84
        refine w_skip ?_
        show W _ _ _ _ _ _ _
        refine w_region <| o1 K (os_move rfl) rfl fun _ K => o1 K (os_add rfl rfl (by omega) (by omega)) rfl fun _ K => o1 K (os_assign rfl) rfl fun _ K => wr_nil ?_
        exact ⟨_, (by omega), j + 1, rfl, (.cons (K _ _ rfl) (.cons (K _ _ rfl) (.cons (K _ _ rfl) .nil))), M.less (.refl _), (by omega), (elems_more hy hi68 (by omega))⟩
       replace e71 := of_decide_eq_true e71
       refine dgn rfl K rfl rfl rfl rfl fun _ _ K => dgn rfl K rfl rfl rfl rfl fun _ _ K => dgn rfl K rfl rfl rfl rfl fun _ _ K => dgn rfl K rfl rfl rfl rfl fun _ _ K => dgn rfl K rfl rfl rfl rfl fun _ _ K => dgn rfl K rfl rfl rfl rfl fun _ _ K => dgn rfl K rfl rfl rfl rfl fun _ _ K => dgn rfl K rfl rfl rfl rfl fun _ _ K => dgn rfl K rfl rfl rfl rfl fun _ _ K => ?_
       refine dgn rfl K rfl rfl rfl rfl fun _ _ K => dgn rfl K rfl rfl rfl rfl fun _ _ K => dgn rfl K rfl rfl rfl rfl fun _ _ K => d1 rfl K (os_pick rfl rfl rfl) rfl rfl fun _ K => wd_nil ?_
       show W _ _ _ _ _ _ _
       refine w_cond (t := true) (K.opd rfl) (fun _ => ?_) (fun h => by cases h)
       refine w_seq <| w_region <| o1 K (os_assign rfl) rfl fun _ K => wr_nil ?_
       show W _ _ _ _ _ _ _
       refine w_ret ?_
       refine ⟨.inr rfl, _, (res_one (rs_tmp K rfl)), ?_⟩
       exact ⟨false, rfl, (fun h => by cases h), M.qt⟩
      have hb59 := h59
      replace h59 := of_decide_eq_false h59
      refine w_exit ?_
      show W _ _ _ _ _ _ _
      refine w_region <| o1 K (os_move rfl) rfl fun _ K => o1 K (os_add rfl rfl (by omega) (by omega)) rfl fun _ K => o1 K (os_assign rfl) rfl fun _ K => wr_nil ?_
      exact ⟨_, (by omega), i + 1, rfl, (.cons (K _ _ rfl) (.cons (K _ _ rfl) .nil)), M.less (.refl _), (by omega), hc, (rows_more hx hi44 ⟨by omega, at_mem (by omega) hy⟩)⟩
     have hb38 := h38
     replace h38 := of_decide_eq_false h38
     refine w_exit ?_
     show W _ _ _ _ _ _ _
     refine w_seq <| w_region <| o1 K (os_assign rfl) rfl fun _ K => wr_nil ?_
     show W _ _ _ _ _ _ _
     refine w_ret ?_
     refine ⟨.inr rfl, _, (res_one (rs_tmp K rfl)), ?_⟩
     refine ⟨true, rfl, fun _ => ⟨hc.1, ?_⟩, M.qt⟩
     exact ⟨by show t.toNat ≤ 6; omega, hc.2.2.1, hc.2.2.2.1, hc.2.2.2.2, at_mem (l := nx) (i := i) (by omega) hx⟩
    replace e25 := of_decide_eq_true e25
    refine gn K rfl rfl rfl rfl fun _ K => gn K rfl rfl rfl rfl fun _ K => gn K rfl rfl rfl rfl fun _ K => gn K rfl rfl rfl rfl fun _ K => gn K rfl rfl rfl rfl fun _ K => gn K rfl rfl rfl rfl fun _ K => gn K rfl rfl rfl rfl fun _ K => o1 K (os_pick rfl rfl rfl) rfl fun _ K => wr_nil ?_
    show W _ _ _ _ _ _ _
    refine w_cond (t := true) (K.opd rfl) (fun _ => ?_) (fun h => by cases h)
    refine w_seq <| w_region <| o1 K (os_assign rfl) rfl fun _ K => wr_nil ?_
    show W _ _ _ _ _ _ _
    refine w_ret ?_
    refine ⟨.inr rfl, _, (res_one (rs_tmp K rfl)), ?_⟩
    exact ⟨false, rfl, (fun h => by cases h), M.qt⟩
   replace e19 := of_decide_eq_true e19
   refine gn K rfl rfl rfl rfl fun _ K => gn K rfl rfl rfl rfl fun _ K => gn K rfl rfl rfl rfl fun _ K => gn K rfl rfl rfl rfl fun _ K => o1 K (os_pick rfl rfl rfl) rfl fun _ K => o1 K (os_move rfl) rfl fun _ K => gn K rfl rfl rfl rfl fun _ K => gn K rfl rfl rfl rfl fun _ K => gn K rfl rfl rfl rfl fun _ K => ?_
   refine gn K rfl rfl rfl rfl fun _ K => gn K rfl rfl rfl rfl fun _ K => gn K rfl rfl rfl rfl fun _ K => gn K rfl rfl rfl rfl fun _ K => o1 K (os_pick rfl rfl rfl) rfl fun _ K => wr_nil ?_
   show W _ _ _ _ _ _ _
   refine w_cond (t := true) (K.opd rfl) (fun _ => ?_) (fun h => by cases h)
   refine w_seq <| w_region <| o1 K (os_assign rfl) rfl fun _ K => wr_nil ?_
   show W _ _ _ _ _ _ _
   refine w_ret ?_
   refine ⟨.inr rfl, _, (res_one (rs_tmp K rfl)), ?_⟩
   exact ⟨false, rfl, (fun h => by cases h), M.qt⟩
  replace e13 := of_decide_eq_true e13
  refine gn K rfl rfl rfl rfl fun _ K => gn K rfl rfl rfl rfl fun _ K => gn K rfl rfl rfl rfl fun _ K => gn K rfl rfl rfl rfl fun _ K => o1 K (os_pick rfl rfl rfl) rfl fun _ K => o1 K (os_move rfl) rfl fun _ K => gn K rfl rfl rfl rfl fun _ K => gn K rfl rfl rfl rfl fun _ K => gn K rfl rfl rfl rfl fun _ K => ?_
  refine gn K rfl rfl rfl rfl fun _ K => o1 K (os_pick rfl rfl rfl) rfl fun _ K => o1 K (os_move rfl) rfl fun _ K => gn K rfl rfl rfl rfl fun _ K => gn K rfl rfl rfl rfl fun _ K => gn K rfl rfl rfl rfl fun _ K => gn K rfl rfl rfl rfl fun _ K => gn K rfl rfl rfl rfl fun _ K => gn K rfl rfl rfl rfl fun _ K => ?_
  refine gn K rfl rfl rfl rfl fun _ K => o1 K (os_pick rfl rfl rfl) rfl fun _ K => wr_nil ?_
  show W _ _ _ _ _ _ _
  refine w_cond (t := true) (K.opd rfl) (fun _ => ?_) (fun h => by cases h)
  refine w_seq <| w_region <| o1 K (os_assign rfl) rfl fun _ K => wr_nil ?_
  show W _ _ _ _ _ _ _
  refine w_ret ?_
  refine ⟨.inr rfl, _, (res_one (rs_tmp K rfl)), ?_⟩
  exact ⟨false, rfl, (fun h => by cases h), M.qt⟩
 replace e8 := of_decide_eq_true e8
 refine gn K rfl rfl rfl rfl fun _ K => gn K rfl rfl rfl rfl fun _ K => gn K rfl rfl rfl rfl fun _ K => o1 K (os_pick rfl rfl rfl) rfl fun _ K => o1 K (os_move rfl) rfl fun _ K => gn K rfl rfl rfl rfl fun _ K => gn K rfl rfl rfl rfl fun _ K => gn K rfl rfl rfl rfl fun _ K => gn K rfl rfl rfl rfl fun _ K => ?_
 refine o1 K (os_pick rfl rfl rfl) rfl fun _ K => o1 K (os_move rfl) rfl fun _ K => gn K rfl rfl rfl rfl fun _ K => gn K rfl rfl rfl rfl fun _ K => gn K rfl rfl rfl rfl fun _ K => gn K rfl rfl rfl rfl fun _ K => o1 K (os_pick rfl rfl rfl) rfl fun _ K => o1 K (os_move rfl) rfl fun _ K => gn K rfl rfl rfl rfl fun _ K => ?_
 refine gn K rfl rfl rfl rfl fun _ K => gn K rfl rfl rfl rfl fun _ K => gn K rfl rfl rfl rfl fun _ K => gn K rfl rfl rfl rfl fun _ K => gn K rfl rfl rfl rfl fun _ K => gn K rfl rfl rfl rfl fun _ K => o1 K (os_pick rfl rfl rfl) rfl fun _ K => wr_nil ?_
 show W _ _ _ _ _ _ _
 refine w_cond (t := true) (K.opd rfl) (fun _ => ?_) (fun h => by cases h)
 refine w_seq <| w_region <| o1 K (os_assign rfl) rfl fun _ K => wr_nil ?_
 show W _ _ _ _ _ _ _
 refine w_ret ?_
 refine ⟨.inr rfl, _, (res_one (rs_tmp K rfl)), ?_⟩
 exact ⟨false, rfl, (fun h => by cases h), M.qt⟩

theorem r19Same_ev {st : St} (hf : Fresh st) {t : Int} {acc : List Bool} {nx : List (List Int)} {ka kn ka2 kn2 : AV} {ls ls2 : List (List AV)} (hA : RdR st.h.get [] 1 (bC acc) ka) (hN : LsR st.h.get nx kn ls) (hA2 : RdR st.h.get [] 1 (bC acc) ka2) (hN2 : LsR st.h.get nx kn2 ls2) : ∃ v st', Ev Tryz.prog envP 21 [.agg [.int .i64 t, ka, kn], .agg [.int .i64 t, ka2, kn2]] st v st' ∧ v = .bool true ∧ Qt st st' := by
 have hac := hA.cell; have hnc := hN.r.cell; have hac2 := hA2.cell; have hnc2 := hN2.r.cell
 have hbnacc : (acc.length : Int) ≤ 9223372036854775807 := by have := hA.bnd; rw [bC_len] at this; exact this
 have hbn : (nx.length : Int) ≤ 9223372036854775807 := by have := hN.r.bnd; rw [hN.ln] at this; exact this
 refine ev_fn rfl Tryz.func21 rfl Tryz.ntmps21 rfl (by decide) (by simp) fun T hT => ?_
 have K : KnT [(0, _), (1, _)] T := (.cons (hT 0) (.cons (hT 1) .nil))
 have M := Mem.start hf
 refine w_seq <| w_region ?_
 refine wr_box K M rfl (cl_cons rfl (cl_cons hA.cell (cl_cons hN.r.cell cl_nil))) (by decide) fun c2 _ _ K M => ?_
 refine wr_box K M rfl (cl_cons rfl (cl_cons hA2.cell (cl_cons hN2.r.cell cl_nil))) (by decide) fun c3 _ _ K M => ?_
 refine o1 K (os_assign rfl) rfl fun _ K => wr_nil ?_
 show W _ _ _ _ _ _ _
 refine w_seq <| w_seq <| w_region <| o1 K (os_fieldAddr fo_api_Auto_0 rfl) rfl fun _ K => o1 K (os_load rfl (M.load (k := 1) rfl (part_one tk_int rfl))) rfl fun _ K => o1 K (os_fieldAddr fo_api_Auto_0 rfl) rfl fun _ K => o1 K (os_load rfl (M.load (k := 0) rfl (part_one tk_int rfl))) rfl fun _ K => o1 K (os_neI rfl rfl) rfl fun _ K => ?_
 refine oB K (os_move rfl) rfl fun b12 _ e12 K => ?_
 cases b12
 ·replace e12 : (t = t) := by simpa using e12
  refine og K rfl rfl (os_fieldAddr fo_api_Auto_1 rfl) rfl fun _ K => og K rfl rfl (os_load rfl (M.load (k := 1) rfl (part_one tk_S_bool rfl))) rfl fun _ K => og K rfl rfl (os_lenL un_S_bool rfl rfl (hA.len.trans (congrArg some (bC_len _)))) rfl fun _ K => og K rfl rfl (os_fieldAddr fo_api_Auto_1 rfl) rfl fun _ K => og K rfl rfl (os_load rfl (M.load (k := 0) rfl (part_one tk_S_bool rfl))) rfl fun _ K => og K rfl rfl (os_lenL un_S_bool rfl rfl (hA2.len.trans (congrArg some (bC_len _)))) rfl fun _ K => og K rfl rfl (os_neI rfl rfl) rfl fun _ K => o1 K (os_pick rfl rfl rfl) rfl fun _ K => ?_
  refine oB K (os_move rfl) rfl fun b21 _ e21 K => ?_
  cases b21
  ·replace e21 : (((acc.length : Nat) : Int) = ((acc.length : Nat) : Int)) := by simpa using e21
   refine og K rfl rfl (os_fieldAddr fo_api_Auto_2 rfl) rfl fun _ K => og K rfl rfl (os_load rfl (M.load (k := 1) rfl (part_one tk_S_S_int rfl))) rfl fun _ K => og K rfl rfl (os_lenL un_S_S_int rfl rfl hN.len) rfl fun _ K => og K rfl rfl (os_fieldAddr fo_api_Auto_2 rfl) rfl fun _ K => og K rfl rfl (os_load rfl (M.load (k := 0) rfl (part_one tk_S_S_int rfl))) rfl fun _ K => og K rfl rfl (os_lenL un_S_S_int rfl rfl hN2.len) rfl fun _ K => og K rfl rfl (os_neI rfl rfl) rfl fun _ K => o1 K (os_pick rfl rfl rfl) rfl fun _ K => wr_nil ?_
   show W _ _ _ _ _ _ _
   refine w_cond (K.opd rfl) (fun h29 => ?_) (fun h29 => ?_)
   ·have hb29 := h29
    replace h29 : ¬ (((nx.length : Nat) : Int) = ((nx.length : Nat) : Int)) := by simpa using h29
    exact absurd rfl h29
   have hb29 := h29
   replace h29 : (((nx.length : Nat) : Int) = ((nx.length : Nat) : Int)) := by simpa using h29
   refine w_skip ?_
   show W _ _ _ _ _ _ _
   refine w_seq <| w_seq <| w_region <| o1 K (os_assign rfl) rfl fun _ K => wr_nil ?_
   show W _ _ _ _ _ _ _
   refine w_block ?_
   refine w_loop (fun mm1 T st9 => ∃ (i : Nat), mm1 = acc.length - i ∧ KnT [(2, .ptr c2 0 0), (3, .ptr c3 0 0), (5, .int .i64 (((i : Nat) : Int)))] T ∧ Mem st.h.get st.n [] st9 [(c3, 0, [.int .i64 t, ka2, kn2]), (c2, 0, [.int .i64 t, ka, kn])] ∧ i ≤ acc.length) (fun mm1 T st9 hI => ?_) _ _ _ ⟨0, rfl, (.cons (K _ _ rfl) (.cons (K _ _ rfl) (.cons (K _ _ rfl) .nil))), M.less (.refl _), (Nat.zero_le _)⟩
   obtain ⟨i, rfl, K, M, hi⟩ := hI
   refine w_seq <| w_seq <| w_region <| o1 K (os_move rfl) rfl fun _ K => o1 K (os_fieldAddr fo_api_Auto_1 rfl) rfl fun _ K => o1 K (os_load rfl (M.load (k := 1) rfl (part_one tk_S_bool rfl))) rfl fun _ K => o1 K (os_lenL un_S_bool rfl rfl (hA.len.trans (congrArg some (bC_len _)))) rfl fun _ K => o1 K (os_lss rfl rfl) rfl fun _ K => wr_nil ?_
   show W _ _ _ _ _ _ _
   refine w_cond (K.opd rfl) (fun h34 => ?_) (fun h34 => ?_)
   ·have hb34 := h34
    replace h34 := of_decide_eq_true h34
    refine w_skip ?_
    show W _ _ _ _ _ _ _
    refine w_seq <| w_block <| w_seq ?_
    refine w_drawI (l := [(0, 0), (1, 0), (2, 0), (3, 0), (4, 0), (5, 0), (6, 0), (7, 0), (8, 0), (9, 0), (10, 0)]) (by kernel_rfl) ?_
    refine d1 rfl K (os_fieldAddr fo_api_Auto_1 rfl) rfl rfl fun _ K => d1 rfl K (os_load rfl (M.load (k := 1) rfl (part_one tk_S_bool rfl))) rfl rfl fun _ K => d1 rfl K (os_move rfl) rfl rfl fun _ K => ?_
    obtain ⟨y40, hi40⟩ : ∃ x, acc[i]? = some x := ⟨_, List.getElem?_eq_getElem (by omega)⟩
    obtain ⟨x40, m40, f40, q40, _, la40, lo40, lp40⟩ := (RdR.mem M hA (by simp)).load (i := i) (cs := _) (bC_get hi40)
    refine d1 rfl K (os_indexAddr (j := i) el_S_bool (congrArg some q40) rfl (by rw [bC_len]; omega)) rfl rfl fun _ K => d1 rfl K (os_load rfl (lo40 _ 0 _ tk_bool rfl)) rfl rfl fun _ K => d1 rfl K (os_fieldAddr fo_api_Auto_1 rfl) rfl rfl fun _ K => d1 rfl K (os_load rfl (M.load (k := 0) rfl (part_one tk_S_bool rfl))) rfl rfl fun _ K => d1 rfl K (os_move rfl) rfl rfl fun _ K => ?_
    obtain ⟨x45, m45, f45, q45, _, la45, lo45, lp45⟩ := (RdR.mem M hA2 (by simp)).load (i := i) (cs := _) (bC_get hi40)
    refine d1 rfl K (os_indexAddr (j := i) el_S_bool (congrArg some q45) rfl (by rw [bC_len]; omega)) rfl rfl fun _ K => d1 rfl K (os_load rfl (lo45 _ 0 _ tk_bool rfl)) rfl rfl fun _ K => d1 rfl K (os_neB un_bool rfl rfl) rfl rfl fun _ K => wd_nil ?_
    show W _ _ _ _ _ _ _
    refine w_cond (K.opd rfl) (fun h47 => ?_) (fun h47 => ?_)
    ·have hb47 := h47
     replace h47 : (y40 == y40) = false := by first | simpa using h47 | (revert h47; cases (y40 == y40) <;> simp)
     (revert h47; cases y40 <;> simp)
    have hb47 := h47
    replace h47 : (y40 == y40) = true := by first | simpa using h47 | (revert h47; cases (y40 == y40) <;> simp)
    refine w_skip ?_
    show W _ _ _ _ _ _ _
    refine w_region <| o1 K (os_move rfl) rfl fun _ K => o1 K (os_add rfl rfl (by omega) (by omega)) rfl fun _ K => o1 K (os_assign rfl) rfl fun _ K => wr_nil ?_
    exact ⟨_, (by omega), i + 1, rfl, (.cons (K _ _ rfl) (.cons (K _ _ rfl) (.cons (K _ _ rfl) .nil))), M.less (.refl _), (by omega)⟩
   have hb34 := h34
   replace h34 := of_decide_eq_false h34
   refine w_exit ?_
   show W _ _ _ _ _ _ _
   refine w_seq <| w_seq <| w_region <| o1 K (os_assign rfl) rfl fun _ K => wr_nil ?_
   show W _ _ _ _ _ _ _
   refine w_block ?_
   refine w_loop (fun mm2 T st9 => ∃ (i : Nat), mm2 = nx.length - i ∧ KnT [(2, .ptr c2 0 0), (3, .ptr c3 0 0), (6, .int .i64 (((i : Nat) : Int)))] T ∧ Mem st.h.get st.n [] st9 [(c3, 0, [.int .i64 t, ka2, kn2]), (c2, 0, [.int .i64 t, ka, kn])] ∧ i ≤ nx.length) (fun mm2 T st9 hI => ?_) _ _ _ ⟨0, rfl, (.cons (K _ _ rfl) (.cons (K _ _ rfl) (.cons (K _ _ rfl) .nil))), M.less (.refl _), (Nat.zero_le _)⟩
   obtain ⟨i, rfl, K, M, hi⟩ := hI
   refine w_seq <| w_seq <| w_region <| o1 K (os_move rfl) rfl fun _ K => o1 K (os_fieldAddr fo_api_Auto_2 rfl) rfl fun _ K => o1 K (os_load rfl (M.load (k := 1) rfl (part_one tk_S_S_int rfl))) rfl fun _ K => o1 K (os_lenL un_S_S_int rfl rfl hN.len) rfl fun _ K => o1 K (os_lss rfl rfl) rfl fun _ K => wr_nil ?_
   show W _ _ _ _ _ _ _
   refine w_cond (K.opd rfl) (fun h52 => ?_) (fun h52 => ?_)
   ·have hb52 := h52
    replace h52 := of_decide_eq_true h52
    refine w_skip ?_
    show W _ _ _ _ _ _ _
    refine w_seq <| w_block <| w_seq ?_
    refine w_drawI (l := [(0, 0), (1, 0), (2, 0), (3, 0), (4, 0), (5, 0), (6, 0), (7, 0), (8, 0), (9, 0), (10, 0), (11, 0)]) (by kernel_rfl) ?_
    refine d1 rfl K (os_fieldAddr fo_api_Auto_2 rfl) rfl rfl fun _ K => d1 rfl K (os_load rfl (M.load (k := 1) rfl (part_one tk_S_S_int rfl))) rfl rfl fun _ K => d1 rfl K (os_move rfl) rfl rfl fun _ K => ?_
    obtain ⟨s58, hi58⟩ : ∃ x, nx[i]? = some x := ⟨_, List.getElem?_eq_getElem (by omega)⟩
    obtain ⟨_, hc58, w58, rfl, hr58, hz58⟩ := hN.at_ _ _ hi58
    obtain ⟨x58, m58, f58, q58, _, la58, lo58, lp58⟩ := (RdR.mem M hN.r (by simp)).load (i := i) (cs := _) hc58
    refine d1 rfl K (os_indexAddr (j := i) el_S_S_int (congrArg some q58) rfl (by rw [hN.ln]; omega)) rfl rfl fun _ K => d1 rfl K (os_load rfl (lo58 _ 0 _ tk_S_int rfl)) rfl rfl fun _ K => d1 rfl K (os_fieldAddr fo_api_Auto_2 rfl) rfl rfl fun _ K => d1 rfl K (os_load rfl (M.load (k := 0) rfl (part_one tk_S_S_int rfl))) rfl rfl fun _ K => d1 rfl K (os_move rfl) rfl rfl fun _ K => ?_
    obtain ⟨_, hc63, w63, rfl, hr63, hz63⟩ := hN2.at_ _ _ hi58
    obtain ⟨x63, m63, f63, q63, _, la63, lo63, lp63⟩ := (RdR.mem M hN2.r (by simp)).load (i := i) (cs := _) hc63
    refine d1 rfl K (os_indexAddr (j := i) el_S_S_int (congrArg some q63) rfl (by rw [hN2.ln]; omega)) rfl rfl fun _ K => d1 rfl K (os_load rfl (lo63 _ 0 _ tk_S_int rfl)) rfl rfl fun _ K => ?_
    obtain ⟨v65, st65, ev65, rfl, q65⟩ := sameZ_ev M.fresh (RdR.mem M hr58 (by simp)) (RdR.mem M hr63 (by simp))
    refine dA rfl K (os_call rfl ev65) rfl rfl fun _ K => ?_
    replace M := M.quiet q65
    refine d1 rfl K (os_not rfl) rfl rfl fun _ K => wd_nil ?_
    show W _ _ _ _ _ _ _
    refine w_cond (K.opd rfl) (fun h66 => ?_) (fun h66 => ?_)
    ·have hb66 := h66
     replace h66 : ¬ (s58 = s58) := by simpa using h66
     simp at h66
    have hb66 := h66
    replace h66 : (s58 = s58) := by simpa using h66
    refine w_skip ?_
    show W _ _ _ _ _ _ _
    refine w_region <| o1 K (os_move rfl) rfl fun _ K => o1 K (os_add rfl rfl (by omega) (by omega)) rfl fun _ K => o1 K (os_assign rfl) rfl fun _ K => wr_nil ?_
    exact ⟨_, (by omega), i + 1, rfl, (.cons (K _ _ rfl) (.cons (K _ _ rfl) (.cons (K _ _ rfl) .nil))), M.less (.refl _), (by omega)⟩
   have hb52 := h52
   replace h52 := of_decide_eq_false h52
   refine w_exit ?_
   show W _ _ _ _ _ _ _
   refine w_seq <| w_region <| o1 K (os_assign rfl) rfl fun _ K => wr_nil ?_
   show W _ _ _ _ _ _ _
   refine w_ret ?_
   refine ⟨.inr rfl, _, (res_one (rs_tmp K rfl)), ?_⟩
   exact ⟨rfl, M.qt⟩
  replace e21 : ¬ (((acc.length : Nat) : Int) = ((acc.length : Nat) : Int)) := by simpa using e21
  exact absurd rfl e21
 replace e12 : ¬ (t = t) := by simpa using e12
 exact absurd rfl e12

end Go.Proofs.YtiknomepbklibaaGreatDoor
