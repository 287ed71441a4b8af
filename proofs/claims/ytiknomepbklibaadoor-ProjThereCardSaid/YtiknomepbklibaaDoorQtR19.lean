/-
  The reference's automata: may one be, are two one, where does a word lead to.
-/
import Derived.Test.YtiknomepbklibaaDoorQtAuD
import Derived.Test.YtiknomepbklibaaDoorQtPjP
namespace Go.Proofs.YtiknomepbklibaaDoor
open Go Go.RowKit
set_option linter.unusedVariables false
set_option linter.unusedSimpArgs false
set_option linter.unnecessarySimpa false
set_option maxRecDepth 100000
set_option maxHeartbeats 4000000

theorem os_shlT {P : Program} {G : Env} {K : List (Nat × AV)} {st : St} {t yt : TypeId} {x y : Operand} {k : IntKind} {n : Int} (hx : opK G K x = some (.int .i64 1)) (hy : opK G K y = some (.int k n)) (h0 : 0 ≤ n) (h : n ≤ 62) : OpS P G K (.binOp .shl t x y yt) st (.int .i64 ((2 ^ n.toNat : Nat) : Int)) st := by
 obtain ⟨m, rfl⟩ : ∃ m : Nat, n = ((m : Nat) : Int) := ⟨n.toNat, by omega⟩
 exact os_shl1 hx hy (by omega)
/-- Rows that may be. -/
def RowOk (T n : Nat) (r : List Int) : Prop := r.length = 2 ^ T ∧ ∀ z ∈ r, 0 ≤ z ∧ z < n
theorem at_mem {α : Type} {Q : α → Prop} {l : List α} {i : Nat} (hi : l.length ≤ i) (h : ∀ (j : Nat) (x : α), j < i → l[j]? = some x → Q x) : ∀ x ∈ l, Q x := fun x hx => by
 obtain ⟨j, hj, rfl⟩ := List.mem_iff_getElem.1 hx
 exact h j _ (by omega) (List.getElem?_eq_getElem hj)
theorem elems_more {α : Type} {Q : α → Prop} {l : List α} {i : Nat} {x : α} (h : ∀ (j : Nat) (x : α), j < i → l[j]? = some x → Q x) (hi : l[i]? = some x) (hx : Q x) : ∀ (j : Nat) (x : α), j < i + 1 → l[j]? = some x → Q x := fun j y hj hy => by
 rcases Nat.lt_succ_iff_lt_or_eq.1 hj with h1 | h1
 ·exact h j y h1 hy
 ·subst h1
  rw [hi] at hy
  injection hy with hy
  exact hy ▸ hx
theorem rows_more {T n : Nat} {l : List (List Int)} {i : Nat} {x : List Int} (h : ∀ (j : Nat) (r : List Int), j < i → l[j]? = some r → RowOk T n r) (hi : l[i]? = some x) (hx : RowOk T n x) : ∀ (j : Nat) (r : List Int), j < i + 1 → l[j]? = some r → RowOk T n r := elems_more h hi hx
theorem r19Is_ev {st : St} (hf : Fresh st) {t : Int} {acc : List Bool} {nx : List (List Int)} {ka kn : AV} {ls : List (List AV)} (hA : RdR st.h.get [] 1 (bC acc) ka) (hN : LsR st.h.get nx kn ls) : ∃ v st', Ev Tryd.prog envP 14 [.agg [.int .i64 t, ka, kn]] st v st' ∧ ∃ b, v = .bool b ∧ (b = true → 0 ≤ t ∧ WFA ⟨t.toNat, acc, nx⟩) ∧ Qt st st' := by
 have hac := hA.cell; have hnc := hN.r.cell
 have hbnacc : (acc.length : Int) ≤ 9223372036854775807 := by have := hA.bnd; rw [bC_len] at this; exact this
 have hbn : (nx.length : Int) ≤ 9223372036854775807 := by have := hN.r.bnd; rw [hN.ln] at this; exact this
 refine ev_fn rfl Tryd.func14 rfl Tryd.ntmps14 rfl (by decide) (by simp) fun T hT => ?_
 have K : KnT [(0, _)] T := (.cons (hT 0) .nil)
 have M := Mem.start hf
 refine w_seq <| w_region ?_
 refine wr_box K M rfl (cl_cons rfl (cl_cons hA.cell (cl_cons hN.r.cell cl_nil))) (by decide) fun c1 _ _ K M => ?_
 refine o1 K (os_assign rfl) rfl fun _ K => wr_nil ?_
 show W _ _ _ _ _ _ _
 refine w_seq <| w_seq <| w_region <| o1 K (os_fieldAddr fo_api_Auto_0 rfl) rfl fun _ K => o1 K (os_load rfl (M.load (k := 0) rfl (part_one tk_int rfl))) rfl fun _ K => o1 K (os_lss rfl rfl) rfl fun _ K => ?_
 refine oB K (os_move rfl) rfl fun b8 _ e8 K => ?_
 cases b8
 ·replace e8 := of_decide_eq_false e8
  refine og K rfl rfl (os_fieldAddr fo_api_Auto_0 rfl) rfl fun _ K => og K rfl rfl (os_load rfl (M.load (k := 0) rfl (part_one tk_int rfl))) rfl fun _ K => og K rfl rfl (os_gtr rfl rfl) rfl fun _ K => o1 K (os_pick rfl rfl rfl) rfl fun _ K => ?_
  refine oB K (os_move rfl) rfl fun b13 _ e13 K => ?_
  cases b13
  ·replace e13 := of_decide_eq_false e13
   refine og K rfl rfl (os_fieldAddr fo_api_Auto_1 rfl) rfl fun _ K => og K rfl rfl (os_load rfl (M.load (k := 0) rfl (part_one tk_S_bool rfl))) rfl fun _ K => og K rfl rfl (os_lenL un_S_bool rfl rfl (hA.len.trans (congrArg some (bC_len _)))) rfl fun _ K => og K rfl rfl (os_lss rfl rfl) rfl fun _ K => o1 K (os_pick rfl rfl rfl) rfl fun _ K => ?_
   refine oB K (os_move rfl) rfl fun b19 _ e19 K => ?_
   cases b19
   ·replace e19 := of_decide_eq_false e19
    refine og K rfl rfl (os_fieldAddr fo_api_Auto_1 rfl) rfl fun _ K => og K rfl rfl (os_load rfl (M.load (k := 0) rfl (part_one tk_S_bool rfl))) rfl fun _ K => og K rfl rfl (os_lenL un_S_bool rfl rfl (hA.len.trans (congrArg some (bC_len _)))) rfl fun _ K => og K rfl rfl (os_gtr rfl rfl) rfl fun _ K => o1 K (os_pick rfl rfl rfl) rfl fun _ K => ?_
    refine oB K (os_move rfl) rfl fun b25 _ e25 K => ?_
    cases b25
    ·replace e25 := of_decide_eq_false e25
     refine og K rfl rfl (os_fieldAddr fo_api_Auto_2 rfl) rfl fun _ K => og K rfl rfl (os_load rfl (M.load (k := 0) rfl (part_one tk_S_S_int rfl))) rfl fun _ K => og K rfl rfl (os_lenL un_S_S_int rfl rfl hN.len) rfl fun _ K => og K rfl rfl (os_fieldAddr fo_api_Auto_1 rfl) rfl fun _ K => og K rfl rfl (os_load rfl (M.load (k := 0) rfl (part_one tk_S_bool rfl))) rfl fun _ K => og K rfl rfl (os_lenL un_S_bool rfl rfl (hA.len.trans (congrArg some (bC_len _)))) rfl fun _ K => og K rfl rfl (os_neI rfl rfl) rfl fun _ K => o1 K (os_pick rfl rfl rfl) rfl fun _ K => wr_nil ?_
     show W _ _ _ _ _ _ _
     refine w_cond (K.opd rfl) (fun h33 => ?_) (fun h33 => ?_)
     ·have hb33 := h33
      replace h33 : ¬ (((nx.length : Nat) : Int) = ((acc.length : Nat) : Int)) := by simpa using h33
      refine w_seq <| w_region <| o1 K (os_assign rfl) rfl fun _ K => wr_nil ?_
      show W _ _ _ _ _ _ _
      refine w_ret ?_
      refine ⟨.inr rfl, _, (res_one (rs_tmp K rfl)), ?_⟩
      exact ⟨false, rfl, (fun h => by cases h), M.qt⟩
     have hb33 := h33
     replace h33 : (((nx.length : Nat) : Int) = ((acc.length : Nat) : Int)) := by simpa using h33
     refine w_skip ?_
     show W _ _ _ _ _ _ _
     refine w_seq <| w_seq <| w_region <| o1 K (os_assign rfl) rfl fun _ K => wr_nil ?_
     show W _ _ _ _ _ _ _
     refine w_block ?_
     refine w_loop (fun mm1 T st9 => ∃ (i : Nat), mm1 = nx.length - i ∧ KnT [(1, .ptr c1 0 0), (3, .int .i64 (((i : Nat) : Int)))] T ∧ Mem st.h.get st.n [] st9 [(c1, 0, [.int .i64 t, ka, kn])] ∧ i ≤ nx.length ∧ (0 ≤ t ∧ t ≤ 6 ∧ 1 ≤ acc.length ∧ acc.length ≤ 400 ∧ nx.length = acc.length) ∧ (∀ (j : Nat) (r : List Int), j < i → nx[j]? = some r → RowOk t.toNat acc.length r)) (fun mm1 T st9 hI => ?_) _ _ _ ⟨0, rfl, (.cons (K _ _ rfl) (.cons (K _ _ rfl) .nil)), M.less (.refl _), (Nat.zero_le _), (by omega), (fun j r hj => absurd hj (Nat.not_lt_zero j))⟩
     obtain ⟨i, rfl, K, M, hi, hc, hx⟩ := hI
     have hi0 := hi
     refine w_seq <| w_seq <| w_region <| o1 K (os_move rfl) rfl fun _ K => o1 K (os_fieldAddr fo_api_Auto_2 rfl) rfl fun _ K => o1 K (os_load rfl (M.load (k := 0) rfl (part_one tk_S_S_int rfl))) rfl fun _ K => o1 K (os_lenL un_S_S_int rfl rfl hN.len) rfl fun _ K => o1 K (os_lss rfl rfl) rfl fun _ K => wr_nil ?_
     show W _ _ _ _ _ _ _
     refine w_cond (K.opd rfl) (fun h38 => ?_) (fun h38 => ?_)
     ·have hb38 := h38
      replace h38 := of_decide_eq_true h38
      refine w_skip ?_
      show W _ _ _ _ _ _ _
      refine w_seq <| w_block <| w_seq <| w_seq ?_
      refine w_drawI (l := [(0, 0), (1, 0), (2, 0), (3, 0), (4, 0), (5, 0), (6, 0), (7, 0), (8, 0), (9, 0), (10, 0)]) (by kernel_rfl) ?_
      refine d1 rfl K (os_fieldAddr fo_api_Auto_2 rfl) rfl rfl fun _ K => d1 rfl K (os_load rfl (M.load (k := 0) rfl (part_one tk_S_S_int rfl))) rfl rfl fun _ K => d1 rfl K (os_move rfl) rfl rfl fun _ K => ?_
      obtain ⟨s44, hi44⟩ : ∃ x, nx[i]? = some x := ⟨_, List.getElem?_eq_getElem (by omega)⟩
      obtain ⟨_, hc44, w44, rfl, hr44, hz44⟩ := hN.at_ _ _ hi44
      obtain ⟨x44, m44, f44, q44, _, la44, lo44, lp44⟩ := (RdR.mem M hN.r (by simp)).load (i := i) (cs := _) hc44
      refine d1 rfl K (os_indexAddr (j := i) el_S_S_int (congrArg some q44) rfl (by rw [hN.ln]; omega)) rfl rfl fun _ K => d1 rfl K (os_load rfl (lo44 _ 0 _ tk_S_int rfl)) rfl rfl fun _ K => d1 rfl K (os_lenL un_S_int rfl rfl (hr44.len.trans (congrArg some (zC_len _)))) rfl rfl fun _ K => d1 rfl K (os_fieldAddr fo_api_Auto_0 rfl) rfl rfl fun _ K => d1 rfl K (os_load rfl (M.load (k := 0) rfl (part_one tk_int rfl))) rfl rfl fun _ K => d1 rfl K (os_convW (c := t) un_uint un_int rfl (IntWalk.u64_in _ (by omega))) rfl rfl fun _ K => d1 rfl K (os_shlT rfl rfl (by omega) (by omega)) rfl rfl fun _ K => d1 rfl K (os_neI rfl rfl) rfl rfl fun _ K => wd_nil ?_
      show W _ _ _ _ _ _ _
      refine w_cond (K.opd rfl) (fun h51 => ?_) (fun h51 => ?_)
      ·have hb51 := h51
       replace h51 : ¬ (((s44.length : Nat) : Int) = (((2 ^ t.toNat) : Nat) : Int)) := by simpa using h51
       refine w_seq <| w_region <| o1 K (os_assign rfl) rfl fun _ K => wr_nil ?_
       show W _ _ _ _ _ _ _
       refine w_ret ?_
       refine ⟨.inr rfl, _, (res_one (rs_tmp K rfl)), ?_⟩
       exact ⟨false, rfl, (fun h => by cases h), M.qt⟩
      have hb51 := h51
      replace h51 : (((s44.length : Nat) : Int) = (((2 ^ t.toNat) : Nat) : Int)) := by simpa using h51
      refine w_skip ?_
      show W _ _ _ _ _ _ _
      refine w_seq <| w_region <| o1 K (os_assign rfl) rfl fun _ K => wr_nil ?_
      show W _ _ _ _ _ _ _
      refine w_block ?_
      refine w_loop (fun mm2 T st9 => ∃ (j : Nat), mm2 = s44.length - j ∧ KnT [(1, .ptr c1 0 0), (3, .int .i64 (((i : Nat) : Int))), (4, .int .i64 (((j : Nat) : Int)))] T ∧ Mem st.h.get st.n [] st9 [(c1, 0, [.int .i64 t, ka, kn])] ∧ j ≤ s44.length ∧ (∀ (q : Nat) (z : Int), q < j → s44[q]? = some z → 0 ≤ z ∧ z < acc.length)) (fun mm2 T st9 hI => ?_) _ _ _ ⟨0, rfl, (.cons (K _ _ rfl) (.cons (K _ _ rfl) (.cons (K _ _ rfl) .nil))), M.less (.refl _), (Nat.zero_le _), (fun q z hq => absurd hq (Nat.not_lt_zero q))⟩
      obtain ⟨j, rfl, K, M, hj, hy⟩ := hI
      have hsb := hr44.bnd; rw [zC_len] at hsb
      refine w_seq <| w_seq <| w_region <| o1 K (os_move rfl) rfl fun _ K => o1 K (os_fieldAddr fo_api_Auto_2 rfl) rfl fun _ K => o1 K (os_load rfl (M.load (k := 0) rfl (part_one tk_S_S_int rfl))) rfl fun _ K => o1 K (os_move rfl) rfl fun _ K => ?_
      obtain ⟨_, hc56, w56, rfl, hr56, hz56⟩ := hN.at_ _ _ hi44
      obtain ⟨x56, m56, f56, q56, _, la56, lo56, lp56⟩ := (RdR.mem M hN.r (by simp)).load (i := i) (cs := _) hc56
      refine o1 K (os_indexAddr (j := i) el_S_S_int (congrArg some q56) rfl (by rw [hN.ln]; omega)) rfl fun _ K => o1 K (os_load rfl (lo56 _ 0 _ tk_S_int rfl)) rfl fun _ K => o1 K (os_lenL un_S_int rfl rfl (hr56.len.trans (congrArg some (zC_len _)))) rfl fun _ K => o1 K (os_lss rfl rfl) rfl fun _ K => wr_nil ?_
      show W _ _ _ _ _ _ _
      refine w_cond (K.opd rfl) (fun h59 => ?_) (fun h59 => ?_)
      ·have hb59 := h59
       replace h59 := of_decide_eq_true h59
       refine w_skip ?_
       show W _ _ _ _ _ _ _
       refine w_seq <| w_block <| w_seq ?_
       refine w_drawI (l := [(0, 0), (1, 0), (2, 0), (3, 0), (4, 0), (5, 0), (6, 0), (7, 0), (8, 0), (9, 0), (10, 0), (11, 0), (12, 0), (13, 0), (14, 0), (15, 0), (16, 0), (17, 0), (18, 0), (19, 0), (20, 0), (21, 0), (22, 0)]) (by kernel_rfl) ?_
       refine d1 rfl K (os_fieldAddr fo_api_Auto_2 rfl) rfl rfl fun _ K => d1 rfl K (os_load rfl (M.load (k := 0) rfl (part_one tk_S_S_int rfl))) rfl rfl fun _ K => d1 rfl K (os_move rfl) rfl rfl fun _ K => ?_
       obtain ⟨_, hc65, w65, rfl, hr65, hz65⟩ := hN.at_ _ _ hi44
       obtain ⟨x65, m65, f65, q65, _, la65, lo65, lp65⟩ := (RdR.mem M hN.r (by simp)).load (i := i) (cs := _) hc65
       refine d1 rfl K (os_indexAddr (j := i) el_S_S_int (congrArg some q65) rfl (by rw [hN.ln]; omega)) rfl rfl fun _ K => d1 rfl K (os_load rfl (lo65 _ 0 _ tk_S_int rfl)) rfl rfl fun _ K => d1 rfl K (os_move rfl) rfl rfl fun _ K => ?_
       obtain ⟨y68, hi68⟩ : ∃ x, s44[j]? = some x := ⟨_, List.getElem?_eq_getElem (by omega)⟩
       obtain ⟨x68, m68, f68, q68, _, la68, lo68, lp68⟩ := (RdR.mem M hr65 (by simp)).load (i := j) (cs := _) (zC_get hi68)
       refine d1 rfl K (os_indexAddr (j := j) el_S_int (congrArg some q68) rfl (by rw [zC_len]; omega)) rfl rfl fun _ K => d1 rfl K (os_load rfl (lo68 _ 0 _ tk_int rfl)) rfl rfl fun _ K => d1 rfl K (os_lss rfl rfl) rfl rfl fun _ K => ?_
       refine dB rfl K (os_move rfl) rfl rfl fun b71 _ e71 K => ?_
       cases b71
       ·replace e71 := of_decide_eq_false e71
        refine dg rfl K rfl rfl (os_fieldAddr fo_api_Auto_2 rfl) rfl rfl fun _ K => dg rfl K rfl rfl (os_load rfl (M.load (k := 0) rfl (part_one tk_S_S_int rfl))) rfl rfl fun _ K => dg rfl K rfl rfl (os_move rfl) rfl rfl fun _ K => ?_
        obtain ⟨_, hc75, w75, rfl, hr75, hz75⟩ := hN.at_ _ _ hi44
        obtain ⟨x75, m75, f75, q75, _, la75, lo75, lp75⟩ := (RdR.mem M hN.r (by simp)).load (i := i) (cs := _) hc75
        refine dg rfl K rfl rfl (os_indexAddr (j := i) el_S_S_int (congrArg some q75) rfl (by rw [hN.ln]; omega)) rfl rfl fun _ K => dg rfl K rfl rfl (os_load rfl (lo75 _ 0 _ tk_S_int rfl)) rfl rfl fun _ K => dg rfl K rfl rfl (os_move rfl) rfl rfl fun _ K => ?_
        obtain ⟨x78, m78, f78, q78, _, la78, lo78, lp78⟩ := (RdR.mem M hr75 (by simp)).load (i := j) (cs := _) (zC_get hi68)
        refine dg rfl K rfl rfl (os_indexAddr (j := j) el_S_int (congrArg some q78) rfl (by rw [zC_len]; omega)) rfl rfl fun _ K => dg rfl K rfl rfl (os_load rfl (lo78 _ 0 _ tk_int rfl)) rfl rfl fun _ K => dg rfl K rfl rfl (os_fieldAddr fo_api_Auto_1 rfl) rfl rfl fun _ K => dg rfl K rfl rfl (os_load rfl (M.load (k := 0) rfl (part_one tk_S_bool rfl))) rfl rfl fun _ K => dg rfl K rfl rfl (os_lenL un_S_bool rfl rfl (hA.len.trans (congrArg some (bC_len _)))) rfl rfl fun _ K => dg rfl K rfl rfl (os_geq rfl rfl) rfl rfl fun _ K => d1 rfl K (os_pick rfl rfl rfl) rfl rfl fun _ K => wd_nil ?_
        show W _ _ _ _ _ _ _
        refine w_cond (K.opd rfl) (fun h84 => ?_) (fun h84 => ?_)
        ·have hb84 := h84
         replace h84 := of_decide_eq_true h84
         refine w_seq <| w_region <| o1 K (os_assign rfl) rfl fun _ K => wr_nil ?_
         show W _ _ _ _ _ _ _
         refine w_ret ?_
         refine ⟨.inr rfl, _, (res_one (rs_tmp K rfl)), ?_⟩
         exact ⟨false, rfl, (fun h => by cases h), M.qt⟩
        have hb84 := h84
        replace h84 := of_decide_eq_false h84
        refine w_skip ?_
        show W _ _ _ _ _ _ _
        refine w_region <| o1 K (os_move rfl) rfl fun _ K => o1 K (os_add rfl rfl (by omega) (by omega)) rfl fun _ K => o1 K (os_assign rfl) rfl fun _ K => wr_nil ?_
        exact ⟨_, (by omega), j + 1, rfl, (.cons (K _ _ rfl) (.cons (K _ _ rfl) (.cons (K _ _ rfl) .nil))), M.less (.refl _), (by omega), (elems_more hy hi68 (by omega))⟩
       replace e71 := of_decide_eq_true e71
       refine dgn rfl K rfl rfl rfl rfl fun _ _ K => dgn rfl K rfl rfl rfl rfl fun _ _ K => dgn rfl K rfl rfl rfl rfl fun _ _ K => dgn rfl K rfl rfl rfl rfl fun _ _ K => dgn rfl K rfl rfl rfl rfl fun _ _ K => dgn rfl K rfl rfl rfl rfl fun _ _ K => dgn rfl K rfl rfl rfl rfl fun _ _ K => dgn rfl K rfl rfl rfl rfl fun _ _ K => dgn rfl K rfl rfl rfl rfl fun _ _ K => ?_
       refine dgn rfl K rfl rfl rfl rfl fun _ _ K => dgn rfl K rfl rfl rfl rfl fun _ _ K => dgn rfl K rfl rfl rfl rfl fun _ _ K => d1 rfl K (os_pick rfl rfl rfl) rfl rfl fun _ K => wd_nil ?_
       show W _ _ _ _ _ _ _
       refine w_cond (t := true) (K.opd rfl) (fun _ => ?_) (fun h => by cases h)
       refine w_seq <| w_region <| o1 K (os_assign rfl) rfl fun _ K => wr_nil ?_
       show W _ _ _ _ _ _ _
       refine w_ret ?_
       refine ⟨.inr rfl, _, (res_one (rs_tmp K rfl)), ?_⟩
       exact ⟨false, rfl, (fun h => by cases h), M.qt⟩
      have hb59 := h59
      replace h59 := of_decide_eq_false h59
      refine w_exit ?_
      show W _ _ _ _ _ _ _
      refine w_region <| o1 K (os_move rfl) rfl fun _ K => o1 K (os_add rfl rfl (by omega) (by omega)) rfl fun _ K => o1 K (os_assign rfl) rfl fun _ K => wr_nil ?_
      exact ⟨_, (by omega), i + 1, rfl, (.cons (K _ _ rfl) (.cons (K _ _ rfl) .nil)), M.less (.refl _), (by omega), hc, (rows_more hx hi44 ⟨by omega, at_mem (by omega) hy⟩)⟩
     have hb38 := h38
     replace h38 := of_decide_eq_false h38
     refine w_exit ?_
     show W _ _ _ _ _ _ _
     refine w_seq <| w_region <| o1 K (os_assign rfl) rfl fun _ K => wr_nil ?_
     show W _ _ _ _ _ _ _
     refine w_ret ?_
     refine ⟨.inr rfl, _, (res_one (rs_tmp K rfl)), ?_⟩
     refine ⟨true, rfl, fun _ => ⟨hc.1, ?_⟩, M.qt⟩
     exact ⟨by show t.toNat ≤ 6; omega, hc.2.2.1, hc.2.2.2.1, hc.2.2.2.2, at_mem (l := nx) (i := i) (by omega) hx⟩
    replace e25 := of_decide_eq_true e25
    refine gn K rfl rfl rfl rfl fun _ K => gn K rfl rfl rfl rfl fun _ K => gn K rfl rfl rfl rfl fun _ K => gn K rfl rfl rfl rfl fun _ K => gn K rfl rfl rfl rfl fun _ K => gn K rfl rfl rfl rfl fun _ K => gn K rfl rfl rfl rfl fun _ K => o1 K (os_pick rfl rfl rfl) rfl fun _ K => wr_nil ?_
    show W _ _ _ _ _ _ _
    refine w_cond (t := true) (K.opd rfl) (fun _ => ?_) (fun h => by cases h)
    refine w_seq <| w_region <| o1 K (os_assign rfl) rfl fun _ K => wr_nil ?_
    show W _ _ _ _ _ _ _
    refine w_ret ?_
    refine ⟨.inr rfl, _, (res_one (rs_tmp K rfl)), ?_⟩
    exact ⟨false, rfl, (fun h => by cases h), M.qt⟩
   replace e19 := of_decide_eq_true e19
   refine gn K rfl rfl rfl rfl fun _ K => gn K rfl rfl rfl rfl fun _ K => gn K rfl rfl rfl rfl fun _ K => gn K rfl rfl rfl rfl fun _ K => o1 K (os_pick rfl rfl rfl) rfl fun _ K => o1 K (os_move rfl) rfl fun _ K => gn K rfl rfl rfl rfl fun _ K => gn K rfl rfl rfl rfl fun _ K => gn K rfl rfl rfl rfl fun _ K => ?_
   refine gn K rfl rfl rfl rfl fun _ K => gn K rfl rfl rfl rfl fun _ K => gn K rfl rfl rfl rfl fun _ K => gn K rfl rfl rfl rfl fun _ K => o1 K (os_pick rfl rfl rfl) rfl fun _ K => wr_nil ?_
   show W _ _ _ _ _ _ _
   refine w_cond (t := true) (K.opd rfl) (fun _ => ?_) (fun h => by cases h)
   refine w_seq <| w_region <| o1 K (os_assign rfl) rfl fun _ K => wr_nil ?_
   show W _ _ _ _ _ _ _
   refine w_ret ?_
   refine ⟨.inr rfl, _, (res_one (rs_tmp K rfl)), ?_⟩
   exact ⟨false, rfl, (fun h => by cases h), M.qt⟩
  replace e13 := of_decide_eq_true e13
  refine gn K rfl rfl rfl rfl fun _ K => gn K rfl rfl rfl rfl fun _ K => gn K rfl rfl rfl rfl fun _ K => gn K rfl rfl rfl rfl fun _ K => o1 K (os_pick rfl rfl rfl) rfl fun _ K => o1 K (os_move rfl) rfl fun _ K => gn K rfl rfl rfl rfl fun _ K => gn K rfl rfl rfl rfl fun _ K => gn K rfl rfl rfl rfl fun _ K => ?_
  refine gn K rfl rfl rfl rfl fun _ K => o1 K (os_pick rfl rfl rfl) rfl fun _ K => o1 K (os_move rfl) rfl fun _ K => gn K rfl rfl rfl rfl fun _ K => gn K rfl rfl rfl rfl fun _ K => gn K rfl rfl rfl rfl fun _ K => gn K rfl rfl rfl rfl fun _ K => gn K rfl rfl rfl rfl fun _ K => gn K rfl rfl rfl rfl fun _ K => ?_
  refine gn K rfl rfl rfl rfl fun _ K => o1 K (os_pick rfl rfl rfl) rfl fun _ K => wr_nil ?_
  show W _ _ _ _ _ _ _
  refine w_cond (t := true) (K.opd rfl) (fun _ => ?_) (fun h => by cases h)
  refine w_seq <| w_region <| o1 K (os_assign rfl) rfl fun _ K => wr_nil ?_
  show W _ _ _ _ _ _ _
  refine w_ret ?_
  refine ⟨.inr rfl, _, (res_one (rs_tmp K rfl)), ?_⟩
  exact ⟨false, rfl, (fun h => by cases h), M.qt⟩
 replace e8 := of_decide_eq_true e8
 refine gn K rfl rfl rfl rfl fun _ K => gn K rfl rfl rfl rfl fun _ K => gn K rfl rfl rfl rfl fun _ K => o1 K (os_pick rfl rfl rfl) rfl fun _ K => o1 K (os_move rfl) rfl fun _ K => gn K rfl rfl rfl rfl fun _ K => gn K rfl rfl rfl rfl fun _ K => gn K rfl rfl rfl rfl fun _ K => gn K rfl rfl rfl rfl fun _ K => ?_
 refine o1 K (os_pick rfl rfl rfl) rfl fun _ K => o1 K (os_move rfl) rfl fun _ K => gn K rfl rfl rfl rfl fun _ K => gn K rfl rfl rfl rfl fun _ K => gn K rfl rfl rfl rfl fun _ K => gn K rfl rfl rfl rfl fun _ K => o1 K (os_pick rfl rfl rfl) rfl fun _ K => o1 K (os_move rfl) rfl fun _ K => gn K rfl rfl rfl rfl fun _ K => ?_
 refine gn K rfl rfl rfl rfl fun _ K => gn K rfl rfl rfl rfl fun _ K => gn K rfl rfl rfl rfl fun _ K => gn K rfl rfl rfl rfl fun _ K => gn K rfl rfl rfl rfl fun _ K => gn K rfl rfl rfl rfl fun _ K => o1 K (os_pick rfl rfl rfl) rfl fun _ K => wr_nil ?_
 show W _ _ _ _ _ _ _
 refine w_cond (t := true) (K.opd rfl) (fun _ => ?_) (fun h => by cases h)
 refine w_seq <| w_region <| o1 K (os_assign rfl) rfl fun _ K => wr_nil ?_
 show W _ _ _ _ _ _ _
 refine w_ret ?_
 refine ⟨.inr rfl, _, (res_one (rs_tmp K rfl)), ?_⟩
 exact ⟨false, rfl, (fun h => by cases h), M.qt⟩

theorem r19Run_ev {st : St} (hf : Fresh st) {a : Au} (wf : WFA a) {ka kn : AV} {ls : List (List AV)} (hA : RdR st.h.get [] 1 (bC a.acc) ka) (hN : LsR st.h.get a.nx kn ls) {w : List Int} {kw : AV} (hw : RdR st.h.get [] 1 (zC w) kw) : ∃ v st', Ev Tryd.prog envP 18 [.agg [.int .i64 (((a.tr : Nat) : Int)), ka, kn], kw] st v st' ∧ v = runV a (runZ a 0 w) ∧ Qt st st' := by
 have hbnw : (w.length : Int) ≤ 9223372036854775807 := by have := hw.bnd; rw [zC_len] at this; exact this
 have hps := wf.pos; have hp := pow_nat a.tr; have htr := wf.tr; have hln := wf.len; have hen : a.n = a.acc.length := rfl; have hp64 := pow_le64 wf.tr; have hac := hA.cell; have hnc := hN.r.cell
 refine ev_fn rfl Tryd.func18 rfl Tryd.ntmps18 rfl (by decide) (by simp) fun T hT => ?_
 have K : KnT [(0, _), (1, _)] T := (.cons (hT 0) (.cons (hT 1) .nil))
 have M := Mem.start hf
 refine w_seq <| w_region ?_
 refine wr_box K M rfl (cl_cons rfl (cl_cons hA.cell (cl_cons hN.r.cell cl_nil))) (by decide) fun c2 _ _ K M => ?_
 refine o1 K (os_assign rfl) rfl fun _ K => o1 K (os_assign rfl) rfl fun _ K => wr_nil ?_
 show W _ _ _ _ _ _ _
 refine w_seq <| w_region <| o1 K (os_assign rfl) rfl fun _ K => wr_nil ?_
 show W _ _ _ _ _ _ _
 refine w_seq <| w_seq <| w_region <| o1 K (os_assign rfl) rfl fun _ K => wr_nil ?_
 show W _ _ _ _ _ _ _
 refine w_block ?_
 refine w_loop (fun mm1 T st9 => ∃ (i s : Nat), mm1 = w.length - i ∧ KnT [(1, kw), (2, .ptr c2 0 0), (6, .int .i64 (((s : Nat) : Int))), (7, .int .i64 (((i : Nat) : Int)))] T ∧ Mem st.h.get st.n [] st9 [(c2, 0, [.int .i64 (((a.tr : Nat) : Int)), ka, kn])] ∧ i ≤ w.length ∧ s < a.n ∧ runZ a 0 w = runZ a s (w.drop i)) (fun mm1 T st9 hI => ?_) _ _ _ ⟨0, 0, rfl, (.cons (K _ _ rfl) (.cons (K _ _ rfl) (.cons (K _ _ rfl) (.cons (K _ _ rfl) .nil)))), M.less (.refl _), (Nat.zero_le _), hps, rfl⟩
 obtain ⟨i, s, rfl, K, M, hi, hs, hx⟩ := hI
 refine w_seq <| w_seq <| w_region <| o1 K (os_move rfl) rfl fun _ K => o1 K (os_move rfl) rfl fun _ K => o1 K (os_lenL un_S_int rfl rfl (hw.len.trans (congrArg some (zC_len _)))) rfl fun _ K => o1 K (os_lss rfl rfl) rfl fun _ K => wr_nil ?_
 show W _ _ _ _ _ _ _
 refine w_cond (K.opd rfl) (fun h11 => ?_) (fun h11 => ?_)
 ·have hb11 := h11
  replace h11 := of_decide_eq_true h11
  refine w_skip ?_
  show W _ _ _ _ _ _ _
  refine w_seq <| w_block <| w_seq <| w_seq ?_
  refine w_drawI (l := [(0, 0), (1, 0), (2, 0), (3, 0), (4, 0), (5, 0), (6, 0), (7, 0), (8, 0), (9, 0), (10, 0), (11, 0), (12, 0), (13, 0), (14, 0), (15, 0)]) (by kernel_rfl) ?_
  refine d1 rfl K (os_move rfl) rfl rfl fun _ K => d1 rfl K (os_move rfl) rfl rfl fun _ K => ?_
  obtain ⟨y16, hi16⟩ : ∃ x, w[i]? = some x := ⟨_, List.getElem?_eq_getElem (by omega)⟩
  obtain ⟨x16, m16, f16, q16, _, la16, lo16, lp16⟩ := (RdR.mem M hw (by simp)).load (i := i) (cs := _) (zC_get hi16)
  refine d1 rfl K (os_indexAddr (j := i) el_S_int (congrArg some q16) rfl (by rw [zC_len]; omega)) rfl rfl fun _ K => d1 rfl K (os_load rfl (lo16 _ 0 _ tk_int rfl)) rfl rfl fun _ K => d1 rfl K (os_lss rfl rfl) rfl rfl fun _ K => ?_
  refine dB rfl K (os_move rfl) rfl rfl fun b19 _ e19 K => ?_
  cases b19
  ·replace e19 := of_decide_eq_false e19
   refine dg rfl K rfl rfl (os_move rfl) rfl rfl fun _ K => dg rfl K rfl rfl (os_move rfl) rfl rfl fun _ K => ?_
   obtain ⟨x22, m22, f22, q22, _, la22, lo22, lp22⟩ := (RdR.mem M hw (by simp)).load (i := i) (cs := _) (zC_get hi16)
   refine dg rfl K rfl rfl (os_indexAddr (j := i) el_S_int (congrArg some q22) rfl (by rw [zC_len]; omega)) rfl rfl fun _ K => dg rfl K rfl rfl (os_load rfl (lo22 _ 0 _ tk_int rfl)) rfl rfl fun _ K => dg rfl K rfl rfl (os_fieldAddr fo_api_Auto_0 rfl) rfl rfl fun _ K => dg rfl K rfl rfl (os_load rfl (M.load (k := 0) rfl (part_one tk_int rfl))) rfl rfl fun _ K => dg rfl K rfl rfl (os_convW (c := ((a.tr : Nat) : Int)) un_uint un_int rfl (IntWalk.u64_in _ (by omega))) rfl rfl fun _ K => dg rfl K rfl rfl (os_shl1 (n := a.tr) rfl rfl (by omega)) rfl rfl fun _ K => dg rfl K rfl rfl (os_geq rfl rfl) rfl rfl fun _ K => d1 rfl K (os_pick rfl rfl rfl) rfl rfl fun _ K => wd_nil ?_
   show W _ _ _ _ _ _ _
   refine w_cond (K.opd rfl) (fun h29 => ?_) (fun h29 => ?_)
   ·have hb29 := h29
    replace h29 := of_decide_eq_true h29
    refine w_seq <| w_region <| o1 K (os_assign rfl) rfl fun _ K => o1 K (os_assign rfl) rfl fun _ K => wr_nil ?_
    show W _ _ _ _ _ _ _
    refine w_ret ?_
    refine ⟨.inr rfl, _, (res_two (rs_tmp K rfl) (rs_tmp K rfl)), ?_⟩
    refine ⟨?_, M.qt⟩
    rw [hx, runZ_step hi16, if_neg (by omega)]; rfl
   have hb29 := h29
   replace h29 := of_decide_eq_false h29
   refine w_skip ?_
   show W _ _ _ _ _ _ _
   refine w_drawI (l := [(0, 0), (1, 0), (2, 0), (3, 0), (4, 0), (5, 0), (6, 0), (7, 0), (8, 0), (9, 0), (10, 0), (11, 0)]) (by kernel_rfl) ?_
   refine d1 rfl K (os_fieldAddr fo_api_Auto_2 rfl) rfl rfl fun _ K => d1 rfl K (os_load rfl (M.load (k := 0) rfl (part_one tk_S_S_int rfl))) rfl rfl fun _ K => d1 rfl K (os_move rfl) rfl rfl fun _ K => ?_
   obtain ⟨s33, hi33⟩ : ∃ x, a.nx[s]? = some x := ⟨_, List.getElem?_eq_getElem (by omega)⟩
   obtain ⟨_, hc33, w33, rfl, hr33, hz33⟩ := hN.at_ _ _ hi33
   have hw33 := wf.row s33 (List.mem_of_getElem? hi33)
   have hl33 : s33.length = 2 ^ a.tr := hw33.1
   obtain ⟨x33, m33, f33, q33, _, la33, lo33, lp33⟩ := (RdR.mem M hN.r (by simp)).load (i := s) (cs := _) hc33
   refine d1 rfl K (os_indexAddr (j := s) el_S_S_int (congrArg some q33) rfl (by rw [hN.ln]; omega)) rfl rfl fun _ K => d1 rfl K (os_load rfl (lo33 _ 0 _ tk_S_int rfl)) rfl rfl fun _ K => d1 rfl K (os_move rfl) rfl rfl fun _ K => d1 rfl K (os_move rfl) rfl rfl fun _ K => ?_
   obtain ⟨x37, m37, f37, q37, _, la37, lo37, lp37⟩ := (RdR.mem M hw (by simp)).load (i := i) (cs := _) (zC_get hi16)
   refine d1 rfl K (os_indexAddr (j := i) el_S_int (congrArg some q37) rfl (by rw [zC_len]; omega)) rfl rfl fun _ K => d1 rfl K (os_load rfl (lo37 _ 0 _ tk_int rfl)) rfl rfl fun _ K => ?_
   obtain ⟨y39, hi39⟩ : ∃ x, s33[(y16).toNat]? = some x := ⟨_, List.getElem?_eq_getElem (by omega)⟩
   have hb39 := hw33.2 y39 (List.mem_of_getElem? hi39)
   obtain ⟨x39, m39, f39, q39, _, la39, lo39, lp39⟩ := (RdR.mem M hr33 (by simp)).load (i := (y16).toNat) (cs := _) (zC_get hi39)
   refine d1 rfl K (os_indexAddr (j := (y16).toNat) el_S_int (congrArg some q39) (congrArg (fun z => some (AV.int .i64 z)) (by omega : _ = (((y16).toNat : Nat) : Int))) (by rw [zC_len]; omega)) rfl rfl fun _ K => d1 rfl K (os_load rfl (lo39 _ 0 _ tk_int rfl)) rfl rfl fun _ K => d1 rfl K (os_assign rfl) rfl rfl fun _ K => wd_nil ?_
   show W _ _ _ _ _ _ _
   refine w_region <| o1 K (os_move rfl) rfl fun _ K => o1 K (os_add rfl rfl (by omega) (by omega)) rfl fun _ K => o1 K (os_assign rfl) rfl fun _ K => wr_nil ?_
   have hgo : a.go s y16.toNat = y39.toNat := go_row hi33 hi39
   have hyy : y39 = ((y39.toNat : Nat) : Int) := by omega
   rw [hyy] at K
   exact ⟨_, (by omega), i + 1, y39.toNat, rfl, (.cons (K _ _ rfl) (.cons (K _ _ rfl) (.cons (K _ _ rfl) (.cons (K _ _ rfl) .nil)))), M.less (.refl _), (by omega), (by omega), (by rw [hx, runZ_step hi16, if_pos (by omega), hgo])⟩
  replace e19 := of_decide_eq_true e19
  refine dgn rfl K rfl rfl rfl rfl fun _ _ K => dgn rfl K rfl rfl rfl rfl fun _ _ K => dgn rfl K rfl rfl rfl rfl fun _ _ K => dgn rfl K rfl rfl rfl rfl fun _ _ K => dgn rfl K rfl rfl rfl rfl fun _ _ K => dgn rfl K rfl rfl rfl rfl fun _ _ K => dgn rfl K rfl rfl rfl rfl fun _ _ K => dgn rfl K rfl rfl rfl rfl fun _ _ K => dgn rfl K rfl rfl rfl rfl fun _ _ K => ?_
  refine d1 rfl K (os_pick rfl rfl rfl) rfl rfl fun _ K => wd_nil ?_
  show W _ _ _ _ _ _ _
  refine w_cond (t := true) (K.opd rfl) (fun _ => ?_) (fun h => by cases h)
  refine w_seq <| w_region <| o1 K (os_assign rfl) rfl fun _ K => o1 K (os_assign rfl) rfl fun _ K => wr_nil ?_
  show W _ _ _ _ _ _ _
  refine w_ret ?_
  refine ⟨.inr rfl, _, (res_two (rs_tmp K rfl) (rs_tmp K rfl)), ?_⟩
  refine ⟨?_, M.qt⟩
  rw [hx, runZ_step hi16, if_neg (by omega)]; rfl
 have hb11 := h11
 replace h11 := of_decide_eq_false h11
 refine w_exit ?_
 show W _ _ _ _ _ _ _
 refine w_seq ?_
 refine w_drawI (l := [(0, 0), (1, 0), (2, 0), (3, 0), (4, 0), (5, 0), (6, 0), (7, 0)]) (by kernel_rfl) ?_
 refine d1 rfl K (os_move rfl) rfl rfl fun _ K => d1 rfl K (os_fieldAddr fo_api_Auto_1 rfl) rfl rfl fun _ K => d1 rfl K (os_load rfl (M.load (k := 0) rfl (part_one tk_S_bool rfl))) rfl rfl fun _ K => d1 rfl K (os_move rfl) rfl rfl fun _ K => ?_
 obtain ⟨y45, hi45⟩ : ∃ x, a.acc[s]? = some x := ⟨_, List.getElem?_eq_getElem (by omega)⟩
 obtain ⟨x45, m45, f45, q45, _, la45, lo45, lp45⟩ := (RdR.mem M hA (by simp)).load (i := s) (cs := _) (bC_get hi45)
 refine d1 rfl K (os_indexAddr (j := s) el_S_bool (congrArg some q45) rfl (by rw [bC_len]; omega)) rfl rfl fun _ K => d1 rfl K (os_load rfl (lo45 _ 0 _ tk_bool rfl)) rfl rfl fun _ K => d1 rfl K (os_assign rfl) rfl rfl fun _ K => d1 rfl K (os_assign rfl) rfl rfl fun _ K => wd_nil ?_
 show W _ _ _ _ _ _ _
 refine w_ret ?_
 refine ⟨.inr rfl, _, (res_two (rs_tmp K rfl) (rs_tmp K rfl)), ?_⟩
 refine ⟨?_, M.qt⟩
 rw [hx, List.drop_eq_nil_of_le (by omega), runZ]
 show _ = AV.tup [.int .i64 ((s : Nat) : Int), .bool (a.ok s)]
 rw [Au.ok_at hi45]
end Go.Proofs.YtiknomepbklibaaDoor
