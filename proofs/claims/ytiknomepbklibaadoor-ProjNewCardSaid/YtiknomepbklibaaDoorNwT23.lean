/-
  A track that is put in: the reference's.
-/
import Derived.Test.YtiknomepbklibaaDoorNwT23P
import Derived.Test.YtiknomepbklibaaDoorNwPrJ
namespace Go.Proofs.YtiknomepbklibaaDoor
open Go Go.RowKit
set_option linter.unusedVariables false
set_option linter.unusedSimpArgs false
set_option linter.unnecessarySimpa false
set_option maxRecDepth 100000
set_option maxHeartbeats 4000000

theorem widenNo_ev {st : St} (hf : Fresh st) {a : Au} (wf : WFA a) {ka kn : AV} {ls : List (List AV)} (hA : RdR st.h.get [] 1 (bC a.acc) ka) (hN : LsR st.h.get a.nx kn ls) {k : Int} (hk : ¬ (a.tr < 6 ∧ 0 ≤ k ∧ k ≤ a.tr)) : ∃ v st', Ev Tryd.prog envP 13 [.agg [.int .i64 (((a.tr : Nat) : Int)), ka, kn], .int .i64 k] st v st' ∧ ∃ ta ka' kn', v = .tup [.agg [.int .i64 ta, ka', kn'], .bool false] ∧ isCell ka' = true ∧ isCell kn' = true ∧ Qt st st' := by
 have hac := hA.cell; have hnc := hN.r.cell; have hmo := wf.most; have hps := wf.pos; have hln := wf.len; have hen : a.n = a.acc.length := rfl; have htr := wf.tr; have hp6 := pow_le64 htr; have hp0 : 0 < 2 ^ a.tr := Nat.two_pow_pos _
 refine ev_fn rfl Tryd.func13 rfl Tryd.ntmps13 rfl (by decide) (by simp) fun T hT => ?_
 have K : KnT [(0, _), (1, _)] T := (.cons (hT 0) (.cons (hT 1) .nil))
 have M := Mem.start hf
 refine w_seq <| w_region ?_
 refine wr_box K M rfl (cl_cons rfl (cl_cons hA.cell (cl_cons hN.r.cell cl_nil))) (by decide) fun c2 _ _ K M => ?_
 refine wr_alloc K M ze_api_Auto (by decide) fun c4 _ _ K M => ?_
 refine o1 K (os_assign rfl) rfl fun _ K => wr_nil ?_
 show W _ _ _ _ _ _ _
 refine w_seq <| w_seq <| w_region <| o1 K (os_fieldAddr fo_api_Auto_0 rfl) rfl fun _ K => o1 K (os_load rfl (M.load (k := 1) rfl (part_one tk_int rfl))) rfl fun _ K => o1 K (os_geq rfl rfl) rfl fun _ K => ?_
 refine oB K (os_move rfl) rfl fun b14 _ e14 K => ?_
 cases b14
 · replace e14 := of_decide_eq_false e14
   refine og K rfl rfl (os_move rfl) rfl fun _ K => og K rfl rfl (os_lss rfl rfl) rfl fun _ K => o1 K (os_pick rfl rfl rfl) rfl fun _ K => ?_
   refine oB K (os_move rfl) rfl fun b18 _ e18 K => ?_
   cases b18
   · replace e18 := of_decide_eq_false e18
     refine og K rfl rfl (os_move rfl) rfl fun _ K => og K rfl rfl (os_fieldAddr fo_api_Auto_0 rfl) rfl fun _ K => og K rfl rfl (os_load rfl (M.load (k := 1) rfl (part_one tk_int rfl))) rfl fun _ K => og K rfl rfl (os_gtr rfl rfl) rfl fun _ K => o1 K (os_pick rfl rfl rfl) rfl fun _ K => wr_nil ?_
     show W _ _ _ _ _ _ _
     refine w_cond (K.opd rfl) (fun h23 => ?_) (fun h23 => ?_)
     ·have hb23 := h23
      replace h23 := of_decide_eq_true h23
      refine w_seq <| w_region <| o1 K (os_build st_api_Auto rfl rfl) rfl fun _ K => ?_
      refine wr_store (k := 0) K M rfl rfl rfl sz_api_Auto rfl rfl rfl fun _ M => ?_
      refine o1 K (os_assign rfl) rfl fun _ K => wr_nil ?_
      show W _ _ _ _ _ _ _
      refine w_ret ?_
      refine ⟨.inr rfl, _, (res_two (rs_cell K rfl (M.load (k := 0) rfl (part_agg tk_api_Auto rfl))) (rs_tmp K rfl)), ?_⟩
      first
       | exact ⟨_, _, _, rfl, rfl, rfl, M.qt⟩
       | (exfalso; omega)
     have hb23 := h23
     replace h23 := of_decide_eq_false h23
     exfalso; omega
   replace e18 := of_decide_eq_true e18
   refine gn K rfl rfl rfl rfl fun _ K => gn K rfl rfl rfl rfl fun _ K => gn K rfl rfl rfl rfl fun _ K => gn K rfl rfl rfl rfl fun _ K => o1 K (os_pick rfl rfl rfl) rfl fun _ K => wr_nil ?_
   show W _ _ _ _ _ _ _
   refine w_cond (t := true) (K.opd rfl) (fun _ => ?_) (fun h => by cases h)
   refine w_seq <| w_region <| o1 K (os_build st_api_Auto rfl rfl) rfl fun _ K => ?_
   refine wr_store (k := 0) K M rfl rfl rfl sz_api_Auto rfl rfl rfl fun _ M => ?_
   refine o1 K (os_assign rfl) rfl fun _ K => wr_nil ?_
   show W _ _ _ _ _ _ _
   refine w_ret ?_
   refine ⟨.inr rfl, _, (res_two (rs_cell K rfl (M.load (k := 0) rfl (part_agg tk_api_Auto rfl))) (rs_tmp K rfl)), ?_⟩
   first
    | exact ⟨_, _, _, rfl, rfl, rfl, M.qt⟩
    | (exfalso; omega)
 replace e14 := of_decide_eq_true e14
 refine gn K rfl rfl rfl rfl fun _ K => gn K rfl rfl rfl rfl fun _ K => o1 K (os_pick rfl rfl rfl) rfl fun _ K => o1 K (os_move rfl) rfl fun _ K => gn K rfl rfl rfl rfl fun _ K => gn K rfl rfl rfl rfl fun _ K => gn K rfl rfl rfl rfl fun _ K => gn K rfl rfl rfl rfl fun _ K => o1 K (os_pick rfl rfl rfl) rfl fun _ K => ?_
 refine wr_nil ?_
 show W _ _ _ _ _ _ _
 refine w_cond (t := true) (K.opd rfl) (fun _ => ?_) (fun h => by cases h)
 refine w_seq <| w_region <| o1 K (os_build st_api_Auto rfl rfl) rfl fun _ K => ?_
 refine wr_store (k := 0) K M rfl rfl rfl sz_api_Auto rfl rfl rfl fun _ M => ?_
 refine o1 K (os_assign rfl) rfl fun _ K => wr_nil ?_
 show W _ _ _ _ _ _ _
 refine w_ret ?_
 refine ⟨.inr rfl, _, (res_two (rs_cell K rfl (M.load (k := 0) rfl (part_agg tk_api_Auto rfl))) (rs_tmp K rfl)), ?_⟩
 first
  | exact ⟨_, _, _, rfl, rfl, rfl, M.qt⟩
  | (exfalso; omega)

theorem widen_ev {st : St} (hf : Fresh st) {a : Au} (wf : WFA a) {ka kn : AV} {ls : List (List AV)} (hA : RdR st.h.get [] 1 (bC a.acc) ka) (hN : LsR st.h.get a.nx kn ls) {k : Nat} (ht6 : a.tr < 6) (hk : k ≤ a.tr) : ∃ v st', Ev Tryd.prog envP 13 [.agg [.int .i64 (((a.tr : Nat) : Int)), ka, kn], .int .i64 (((k : Nat) : Int))] st v st' ∧ ∃ kn' vs F, v = .tup [.agg [.int .i64 ((a.tr + 1 : Nat) : Int), ka, kn'], .bool true] ∧ LsAt st'.h.get F kn' vs (widen a k).nx ∧ NewF st st' F ∧ Qt st st' := by
 have hac := hA.cell; have hnc := hN.r.cell; have hmo := wf.most; have hps := wf.pos; have hln := wf.len; have hen : a.n = a.acc.length := rfl; have htr := wf.tr; have hp6 := pow_le64 htr; have hp0 : 0 < 2 ^ a.tr := Nat.two_pow_pos _
 have hp7 := pow_le64 (T := a.tr + 1) (by omega); have hp70 : 0 < 2 ^ (a.tr + 1) := Nat.two_pow_pos _; have hpk : 2 ^ k ≤ 2 ^ a.tr := Nat.pow_le_pow_right (by decide) hk; have hpk0 := Nat.two_pow_pos k
 have B := MemO.start hf
 refine ev_fn rfl Tryd.func13 rfl Tryd.ntmps13 rfl (by decide) (by simp) fun T hT => ?_
 have K : KnT [(0, _), (1, _)] T := (.cons (hT 0) (.cons (hT 1) .nil))
 have M := B.mem
 refine w_seq <| w_region ?_
 refine wr_box K M rfl (cl_cons rfl (cl_cons hA.cell (cl_cons hN.r.cell cl_nil))) (by decide) fun c2 _ _ K M => ?_
 refine wr_alloc K M ze_api_Auto (by decide) fun c4 _ _ K M => ?_
 refine o1 K (os_assign rfl) rfl fun _ K => wr_nil ?_
 show W _ _ _ _ _ _ _
 refine w_seq <| w_seq <| w_region <| o1 K (os_fieldAddr fo_api_Auto_0 rfl) rfl fun _ K => o1 K (os_load rfl (M.load (k := 1) rfl (part_one tk_int rfl))) rfl fun _ K => o1 K (os_geq rfl rfl) rfl fun _ K => ?_
 refine oB K (os_move rfl) rfl fun b14 _ e14 K => ?_
 cases b14
 ·replace e14 := of_decide_eq_false e14
  refine og K rfl rfl (os_move rfl) rfl fun _ K => og K rfl rfl (os_lss rfl rfl) rfl fun _ K => o1 K (os_pick rfl rfl rfl) rfl fun _ K => ?_
  refine oB K (os_move rfl) rfl fun b18 _ e18 K => ?_
  cases b18
  ·replace e18 := of_decide_eq_false e18
   refine og K rfl rfl (os_move rfl) rfl fun _ K => og K rfl rfl (os_fieldAddr fo_api_Auto_0 rfl) rfl fun _ K => og K rfl rfl (os_load rfl (M.load (k := 1) rfl (part_one tk_int rfl))) rfl fun _ K => og K rfl rfl (os_gtr rfl rfl) rfl fun _ K => o1 K (os_pick rfl rfl rfl) rfl fun _ K => wr_nil ?_
   show W _ _ _ _ _ _ _
   refine w_cond (K.opd rfl) (fun h23 => ?_) (fun h23 => ?_)
   ·have hb23 := h23
    replace h23 := of_decide_eq_true h23
    exfalso; omega
   have hb23 := h23
   replace h23 := of_decide_eq_false h23
   refine w_skip ?_
   show W _ _ _ _ _ _ _
   refine w_seq <| w_region <| o1 K (os_fieldAddr fo_api_Auto_0 rfl) rfl fun _ K => o1 K (os_load rfl (M.load (k := 1) rfl (part_one tk_int rfl))) rfl fun _ K => o1 K (os_add rfl rfl (by omega) (by omega)) rfl fun _ K => o1 K (os_fieldAddr fo_api_Auto_1 rfl) rfl fun _ K => o1 K (os_load rfl (M.load (k := 1) rfl (part_one tk_S_bool rfl))) rfl fun _ K => o1 K (os_build st_api_Auto rfl ((fillA_any rfl rfl rfl).trans ((fillA_one rfl hA.cell rfl).trans rfl))) rfl fun _ K => ?_
   refine wr_alloc K M ze_api_Auto (by decide) fun c6 _ _ K M => ?_
   refine wr_store (k := 0) K M rfl rfl rfl sz_api_Auto rfl (cl_cons rfl (cl_cons hA.cell (cl_cons rfl cl_nil))) rfl fun _ M => ?_
   refine wr_nil ?_
   show W _ _ _ _ _ _ _
   refine w_seq <| w_seq ?_
   replace B := (B.step M).noRows
   have M := B.mem
   refine w_region <| o1 K (os_assign rfl) rfl fun _ K => wr_nil ?_
   show W _ _ _ _ _ _ _
   refine w_block ?_
   refine w_loop (fun mm1 T st9 => ∃ (i : Nat) (vs : List AV) (F : Fp) (kr : AV) (Ar : Rows2), mm1 = a.n - i ∧ KnT [(1, .int .i64 (((k : Nat) : Int))), (2, .ptr c2 0 0), (4, .ptr c4 0 0), (5, .bool false), (6, .ptr c6 0 0), (7, .int .i64 (((i : Nat) : Int)))] T ∧ MemO st noX st9 ((c6, 0, [.int .i64 ((((a.tr : Nat) : Int) + 1)), ka, kr]) :: (c4, 0, [.int .i64 0, .nils, .nils]) :: (c2, 0, [.int .i64 (((a.tr : Nat) : Int)), ka, kn]) :: (Ar ++ [])) [vsO F vs (wrows a k i)] ∧ i ≤ a.n ∧ AccX Ar kr vs) (fun mm1 T st9 hI => ?_) _ _ _ ⟨0, [], _, .nils, [], rfl, (.cons (K _ _ rfl) (.cons (K _ _ rfl) (.cons (K _ _ rfl) (.cons (K _ _ rfl) (.cons (K _ _ rfl) (.cons (K _ _ rfl) .nil)))))), (B.step M).less (.refl _), (Nat.zero_le _), .none⟩
   obtain ⟨i, vs, F, kr, Ar, rfl, K, B, hi, hAr⟩ := hI
   have M := B.mem
   refine w_seq <| w_seq <| w_region <| o1 K (os_move rfl) rfl fun _ K => o1 K (os_fieldAddr fo_api_Auto_2 rfl) rfl fun _ K => o1 K (os_load rfl (M.load (k := 2) rfl (part_one tk_S_S_int rfl))) rfl fun _ K => o1 K (os_lenL un_S_S_int rfl rfl hN.len) rfl fun _ K => o1 K (os_lss rfl rfl) rfl fun _ K => wr_nil ?_
   show W _ _ _ _ _ _ _
   refine w_cond (K.opd rfl) (fun h35 => ?_) (fun h35 => ?_)
   ·have hb35 := h35
    replace h35 := of_decide_eq_true h35
    refine w_skip ?_
    show W _ _ _ _ _ _ _
    refine w_seq <| w_block <| w_seq <| w_region <| o1 K (os_assign rfl) rfl fun _ K => wr_nil ?_
    show W _ _ _ _ _ _ _
    refine w_seq <| w_seq <| w_region <| o1 K (os_assign rfl) rfl fun _ K => wr_nil ?_
    show W _ _ _ _ _ _ _
    refine w_block ?_
    refine w_loop (fun mm2 T st9 => ∃ (c : Nat) (kw : AV) (Aw : Rows2), mm2 = 2 ^ (a.tr + 1) - c ∧ KnT [(1, .int .i64 (((k : Nat) : Int))), (2, .ptr c2 0 0), (4, .ptr c4 0 0), (5, .bool false), (6, .ptr c6 0 0), (7, .int .i64 (((i : Nat) : Int))), (8, kw), (9, .int .i64 (((c : Nat) : Int))), (35, .bool (decide (((i : Nat) : Int) < ((a.nx.length : Nat) : Int))))] T ∧ MemO st noX st9 ((c6, 0, [.int .i64 ((((a.tr : Nat) : Int) + 1)), ka, kr]) :: (c4, 0, [.int .i64 0, .nils, .nils]) :: (c2, 0, [.int .i64 (((a.tr : Nat) : Int)), ka, kn]) :: (Ar ++ (Aw ++ []))) [vsO F vs (wrows a k i)] ∧ c ≤ 2 ^ (a.tr + 1) ∧ Acc 0 1 Aw kw (zC (wrow a k i c))) (fun mm2 T st9 hI => ?_) _ _ _ ⟨0, .nils, [], rfl, (.cons (K _ _ rfl) (.cons (K _ _ rfl) (.cons (K _ _ rfl) (.cons (K _ _ rfl) (.cons (K _ _ rfl) (.cons (K _ _ rfl) (.cons (K _ _ rfl) (.cons (K _ _ rfl) (.cons (K _ _ rfl) .nil))))))))), (B.step M).less (.refl _), (Nat.zero_le _), .none⟩
    obtain ⟨c, kw, Aw, rfl, K, B, hc, hAw⟩ := hI
    have M := B.mem
    refine w_seq <| w_seq <| w_region <| o1 K (os_move rfl) rfl fun _ K => o1 K (os_fieldAddr fo_api_Auto_0 rfl) rfl fun _ K => o1 K (os_load rfl (M.load (k := 0) rfl (part_one tk_int rfl))) rfl fun _ K => o1 K (os_convW (c := (((a.tr : Nat) : Int) + 1)) un_uint un_int rfl (IntWalk.u64_in _ (by omega))) rfl fun _ K => o1 K (os_shl1 (n := (a.tr + 1)) rfl rfl (by omega)) rfl fun _ K => o1 K (os_lss rfl rfl) rfl fun _ K => ?_
    refine wr_nil ?_
    show W _ _ _ _ _ _ _
    refine w_cond (K.opd rfl) (fun h43 => ?_) (fun h43 => ?_)
    ·have hb43 := h43
     replace h43 := of_decide_eq_true h43
     refine w_skip ?_
     show W _ _ _ _ _ _ _
     refine w_seq <| w_block <| w_seq ?_
     have hdr := drop_lt (T := a.tr) hk (show c < 2 ^ (a.tr + 1) by omega)
     have hdd : c / 2 ^ (k + 1) * 2 ^ k ≤ dropB k c := by unfold dropB; omega
     refine w_region <| o1 K (os_move rfl) rfl fun _ K => o1 K (os_move rfl) rfl fun _ K => o1 K (os_convW (c := ((k : Nat) : Int)) un_uint un_int rfl (IntWalk.u64_in _ (by omega))) rfl fun _ K => o1 K (os_shl1 (n := k) rfl rfl (by omega)) rfl fun _ K => o1 K (os_sub rfl rfl (by omega) (by omega)) rfl fun _ K => o1 K (os_lowN (k := k) (c := c) rfl rfl (by omega) (by omega)) rfl fun _ K => o1 K (os_assign rfl) rfl fun _ K => wr_nil ?_
     show W _ _ _ _ _ _ _
     refine w_region <| o1 K (os_move rfl) rfl fun _ K => o1 K (os_fieldAddr fo_api_Auto_2 rfl) rfl fun _ K => o1 K (os_load rfl (M.load (k := 2) rfl (part_one tk_S_S_int rfl))) rfl fun _ K => o1 K (os_move rfl) rfl fun _ K => ?_
     obtain ⟨s56, hi56⟩ : ∃ x, a.nx[i]? = some x := ⟨_, List.getElem?_eq_getElem (by omega)⟩
     obtain ⟨_, hc56, w56, rfl, hr56, hz56⟩ := hN.at_ _ _ hi56
     have hw56 := wf.row s56 (List.mem_of_getElem? hi56)
     have hl56 : s56.length = 2 ^ a.tr := hw56.1
     obtain ⟨x56, m56, f56, q56, _, la56, lo56, lp56⟩ := (RowsZ.r (hN.old hf fun c hc => (B.step M).old c hc id)).load (i := i) (cs := _) hc56
     refine o1 K (os_indexAddr (j := i) el_S_S_int (congrArg some q56) rfl (by rw [hN.ln]; omega)) rfl fun _ K => o1 K (os_load rfl (lo56 _ 0 _ tk_S_int rfl)) rfl fun _ K => o1 K (os_move rfl) rfl fun _ K => o1 K (os_move rfl) rfl fun _ K => o1 K (os_move rfl) rfl fun _ K => o1 K (os_add rfl rfl (by omega) (by omega)) rfl fun _ K => o1 K (os_convW (c := (((k : Nat) : Int) + 1)) un_uint un_int rfl (IntWalk.u64_in _ (by omega))) rfl fun _ K => o1 K (os_shrN (a := c) (n := k + 1) rfl rfl (by omega)) rfl fun _ K => o1 K (os_move rfl) rfl fun _ K => ?_
     refine o1 K (os_convW (c := ((k : Nat) : Int)) un_uint un_int rfl (IntWalk.u64_in _ (by omega))) rfl fun _ K => o1 K (os_shlN (a := c / 2 ^ (k + 1)) (n := k) rfl rfl (by omega) (by omega)) rfl fun _ K => o1 K (os_orE (drop_or k c) rfl rfl (by omega) (by omega)) rfl fun _ K => ?_
     obtain ⟨y68, hi68⟩ : ∃ x, s56[(dropB k c)]? = some x := ⟨_, List.getElem?_eq_getElem (by omega)⟩
     have hb68 := hw56.2 y68 (List.mem_of_getElem? hi68)
     obtain ⟨x68, m68, f68, q68, _, la68, lo68, lp68⟩ := ((B.step M).rd0 hf hr56).load (i := (dropB k c)) (cs := _) (zC_get hi68)
     refine o1 K (os_indexAddr (j := (dropB k c)) el_S_int (congrArg some q68) rfl (by rw [zC_len]; omega)) rfl fun _ K => o1 K (os_load rfl (lo68 _ 0 _ tk_int rfl)) rfl fun _ K => ?_
     refine wr_bs K M sl_S_int ze_int rfl rfl rfl rfl rfl fun c70 _ _ K M => ?_
     refine wr_acc00 (k2 := 0) (L := ((c70, 0, [.int .i64 y68]) :: (c6, 0, [.int .i64 ((((a.tr : Nat) : Int) + 1)), ka, kr]) :: (c4, 0, [.int .i64 0, .nils, .nils]) :: (c2, 0, [.int .i64 (((a.tr : Nat) : Int)), ka, kn]) :: (Ar ++ []))) (A := Aw) (B := []) K (Mem.cast (M := ((c70, 0, [.int .i64 y68]) :: (c6, 0, [.int .i64 ((((a.tr : Nat) : Int) + 1)), ka, kr]) :: (c4, 0, [.int .i64 0, .nils, .nils]) :: (c2, 0, [.int .i64 (((a.tr : Nat) : Int)), ka, kn]) :: (Ar ++ (Aw ++ [])))) (M' := ((c70, 0, [.int .i64 y68]) :: (c6, 0, [.int .i64 ((((a.tr : Nat) : Int) + 1)), ka, kr]) :: (c4, 0, [.int .i64 0, .nils, .nils]) :: (c2, 0, [.int .i64 (((a.tr : Nat) : Int)), ka, kn]) :: (Ar ++ [])) ++ (Aw ++ [])) M (by first | (simp only [List.append_assoc, List.cons_append, List.nil_append, List.append_nil, List.set_cons_zero, List.set_cons_succ]; done) | (simp only [List.append_assoc, List.cons_append, List.nil_append, List.append_nil, List.set_cons_zero, List.set_cons_succ]; rfl))) hAw sl_S_int rfl rfl rfl rfl (by rw [zC_len, wrow_len]; omega) rfl fun ks71 A71 _ _ K hA71 M => ?_
     replace M := Mem.cast (M := ((c70, 0, [.int .i64 y68]) :: (c6, 0, [.int .i64 ((((a.tr : Nat) : Int) + 1)), ka, kr]) :: (c4, 0, [.int .i64 0, .nils, .nils]) :: (c2, 0, [.int .i64 (((a.tr : Nat) : Int)), ka, kn]) :: (Ar ++ [])) ++ (A71 ++ [])) (M' := ((c70, 0, [.int .i64 y68]) :: (c6, 0, [.int .i64 ((((a.tr : Nat) : Int) + 1)), ka, kr]) :: (c4, 0, [.int .i64 0, .nils, .nils]) :: (c2, 0, [.int .i64 (((a.tr : Nat) : Int)), ka, kn]) :: (Ar ++ (A71 ++ [])))) M (by first | (simp only [List.append_assoc, List.cons_append, List.nil_append, List.append_nil, List.set_cons_zero, List.set_cons_succ]; done) | (simp only [List.append_assoc, List.cons_append, List.nil_append, List.append_nil, List.set_cons_zero, List.set_cons_succ]; rfl))
     refine o1 K (os_assign rfl) rfl fun _ K => wr_nil ?_
     show W _ _ _ _ _ _ _
     refine w_region <| o1 K (os_move rfl) rfl fun _ K => o1 K (os_add rfl rfl (by omega) (by omega)) rfl fun _ K => o1 K (os_assign rfl) rfl fun _ K => wr_nil ?_
     exact ⟨_, (by omega), c + 1, ks71, A71, rfl, (.cons (K _ _ rfl) (.cons (K _ _ rfl) (.cons (K _ _ rfl) (.cons (K _ _ rfl) (.cons (K _ _ rfl) (.cons (K _ _ rfl) (.cons (K _ _ rfl) (.cons (K _ _ rfl) (.cons (K _ _ rfl) .nil))))))))), (B.step M).less (.cons _ (.refl _)), (by omega), (by rw [wrow_succ hi56 hi68, zC_app]; exact hA71)⟩
    have hb43 := h43
    replace h43 := of_decide_eq_false h43
    refine w_exit ?_
    show W _ _ _ _ _ _ _
    refine w_region <| o1 K (os_fieldAddr fo_api_Auto_2 rfl) rfl fun _ K => o1 K (os_load rfl (M.load (k := 0) rfl (part_one tk_S_S_int rfl))) rfl fun _ K => o1 K (os_move rfl) rfl fun _ K => ?_
    refine wr_bs K M sl_S_S_int ze_S_int rfl ((fillA_one rfl hAw.cell rfl).trans rfl) (cl_cons hAw.cell cl_nil) rfl rfl fun c75 _ _ K M => ?_
    refine wr_accX (k2 := 0) (L := [(c75, 0, [kw]), (c6, 0, [.int .i64 ((((a.tr : Nat) : Int) + 1)), ka, kr]), (c4, 0, [.int .i64 0, .nils, .nils]), (c2, 0, [.int .i64 (((a.tr : Nat) : Int)), ka, kn])]) (A := Ar) (B := (Aw ++ [])) K M hAr sl_S_S_int rfl rfl rfl (by have := VsAt.ln ((B.step M).at_ (k := 0) rfl); rw [wrows_len] at this; omega) rfl fun ks76 A76 _ _ K hA76 _ M => ?_
    refine o1 K (os_fieldAddr fo_api_Auto_2 rfl) rfl fun _ K => ?_
    refine wr_store1 (k := 1) K M rfl rfl rfl sz_S_S_int (hA76.cell) rfl fun _ M => ?_
    refine wr_nil ?_
    show W _ _ _ _ _ _ _
    refine w_region <| o1 K (os_move rfl) rfl fun _ K => o1 K (os_add rfl rfl (by omega) (by omega)) rfl fun _ K => o1 K (os_assign rfl) rfl fun _ K => wr_nil ?_
    replace B := B.step M
    obtain ⟨Fr, B⟩ := MemO.addRow (L := ((c75, 0, [kw]) :: (c6, 0, [.int .i64 ((((a.tr : Nat) : Int) + 1)), ka, ks76]) :: (c4, 0, [.int .i64 0, .nils, .nils]) :: (c2, 0, [.int .i64 (((a.tr : Nat) : Int)), ka, kn]) :: (A76 ++ []))) (A := Aw) (B := []) (B.cast (by first | (simp only [List.append_assoc, List.cons_append, List.nil_append, List.append_nil, List.set_cons_zero, List.set_cons_succ]; done) | (simp only [List.append_assoc, List.cons_append, List.nil_append, List.append_nil, List.set_cons_zero, List.set_cons_succ]; rfl))) hAw (wrow64 wf k i _)
    replace B := B.cast (M' := ((c75, 0, [kw]) :: (c6, 0, [.int .i64 ((((a.tr : Nat) : Int) + 1)), ka, ks76]) :: (c4, 0, [.int .i64 0, .nils, .nils]) :: (c2, 0, [.int .i64 (((a.tr : Nat) : Int)), ka, kn]) :: (A76 ++ []))) (by first | (simp only [List.append_assoc, List.cons_append, List.nil_append, List.append_nil, List.set_cons_zero, List.set_cons_succ]; done) | (simp only [List.append_assoc, List.cons_append, List.nil_append, List.append_nil, List.set_cons_zero, List.set_cons_succ]; rfl))
    have M := B.mem
    have hce : c = 2 ^ (a.tr + 1) := by omega
    subst hce
    rw [← wrows_succ] at B
    have M := B.mem
    exact ⟨_, (by omega), i + 1, _, _, ks76, A76, rfl, (.cons (K _ _ rfl) (.cons (K _ _ rfl) (.cons (K _ _ rfl) (.cons (K _ _ rfl) (.cons (K _ _ rfl) (.cons (K _ _ rfl) .nil)))))), (B.step M).less (.cons _ (.refl _)), (by omega), hA76⟩
   have hb35 := h35
   replace h35 := of_decide_eq_false h35
   refine w_exit ?_
   show W _ _ _ _ _ _ _
   refine w_seq <| w_region <| o1 K (os_load rfl (M.load (k := 0) rfl (part_agg tk_api_Auto rfl))) rfl fun _ K => ?_
   refine wr_store (k := 1) K M rfl rfl rfl sz_api_Auto rfl (cl_cons rfl (cl_cons hA.cell (cl_cons hAr.cell cl_nil))) rfl fun _ M => ?_
   refine o1 K (os_assign rfl) rfl fun _ K => wr_nil ?_
   show W _ _ _ _ _ _ _
   refine w_ret ?_
   refine ⟨.inr rfl, _, (res_two (rs_cell K rfl (M.load (k := 1) rfl (part_agg tk_api_Auto rfl))) (rs_tmp K rfl)), ?_⟩
   have hie : i = a.n := by omega
   subst hie
   replace B := B.step M
   obtain ⟨F', B'⟩ := MemO.toLs (L := [(c6, 0, [.int .i64 ((((a.tr : Nat) : Int) + 1)), ka, kr]), (c4, 0, [.int .i64 ((((a.tr : Nat) : Int) + 1)), ka, kr]), (c2, 0, [.int .i64 (((a.tr : Nat) : Int)), ka, kn])]) (A := Ar) (B := []) (B.cast (by first | (simp only [List.append_assoc, List.cons_append, List.nil_append, List.append_nil, List.set_cons_zero, List.set_cons_succ]; done) | (simp only [List.append_assoc, List.cons_append, List.nil_append, List.append_nil, List.set_cons_zero, List.set_cons_succ]; rfl))) hAr
   exact ⟨kr, vs, F', rfl, B'.at_ (k := 0) rfl, B'.lo0 (k := 0) rfl, B.qt⟩
  replace e18 := of_decide_eq_true e18
  exfalso; omega
 replace e14 := of_decide_eq_true e14
 exfalso; omega
end Go.Proofs.YtiknomepbklibaaDoor
