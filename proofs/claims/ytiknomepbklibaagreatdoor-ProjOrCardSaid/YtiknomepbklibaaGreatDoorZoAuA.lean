/-
  Automata: may one be, one from rows, rows from one.
-/
import Derived.Test.YtiknomepbklibaaGreatDoorZoAcO
namespace Go.Proofs.YtiknomepbklibaaGreatDoor
open Go Go.RowKit
set_option linter.unusedVariables false
set_option linter.unusedSimpArgs false
set_option linter.unnecessarySimpa false
set_option maxRecDepth 100000
set_option maxHeartbeats 2000000

theorem RowV.qt {st st' : St} (hf : Fresh st) (q : Qt st st') {c m : Nat} {l : List AV} (r : RowV st.h.get c m l) : RowV st'.h.get c m l := r.chg hf (q.chg []) (by simp)
theorem bClone_ev {st : St} (hf : Fresh st) {l : List Bool} {kl : AV} (hl : RdR st.h.get [] 1 (bC l) kl) (hn : l.length ≤ 1000000) : ∃ v st', Ev Tryz.prog envP 48 [kl] st v st' ∧ ∃ ks, v = ks ∧ NewR st st' 1 ks (bC l) ∧ Qt st st' := by
 have hcl := bC_len l
 refine ev_fn rfl Tryz.func48 rfl Tryz.ntmps48 rfl (by decide) (by simp) fun T hT => ?_
 have K : KnT [(0, _)] T := (.cons (hT 0) .nil)
 have M := Mem.start hf
 refine w_seq <| w_region <| o1 K (os_assign rfl) rfl fun _ K => wr_nil ?_
 show W _ _ _ _ _ _ _
 refine w_seq <| w_seq <| w_region <| o1 K (os_move rfl) rfl fun _ K => o1 K (os_eqNilA (hl.len.trans (congrArg some (bC_len _))) un_S_bool rfl rfl) rfl fun _ K => wr_nil ?_
 show W _ _ _ _ _ _ _
 refine w_cond (K.opd rfl) (fun h4 => ?_) (fun h4 => ?_)
 ·have hb4 := h4
  refine w_seq <| w_region <| o1 K (os_assign rfl) rfl fun _ K => wr_nil ?_
  show W _ _ _ _ _ _ _
  refine w_ret ?_
  refine ⟨.inr rfl, _, (res_one (rs_tmp K rfl)), ?_⟩
  have hbl : l = [] := by
   have h := hl.len
   rw [nilB_eq h4] at h
   injection h with h
   rw [bC_len] at h
   exact nil_of_len h.symm
  exact ⟨.nils, rfl, ⟨[], by rw [hbl]; exact .none, fun _ _ _ h => by cases h⟩, M.qt⟩
 have hb4 := h4
 refine w_skip ?_
 show W _ _ _ _ _ _ _
 refine w_seq <| w_region ?_
 refine wr_bs K M sl_S_bool ze_bool rfl rfl rfl rfl rfl fun c5 _ _ K M => ?_
 refine o1 K (os_move rfl) rfl fun _ K => ?_
 replace M := Mem.cast (M' := ([(c5, 0, [])] ++ [])) (Mem.perm M (List.perm_append_comm (α := Nat × Nat × List AV) (l₁ := [(c5, 0, [])]) (l₂ := []))) (by first | (simp only [List.append_assoc, List.cons_append, List.nil_append, List.append_nil, List.set_cons_zero, List.set_cons_succ]; done) | (simp only [List.append_assoc, List.cons_append, List.nil_append, List.append_nil, List.set_cons_zero, List.set_cons_succ]; rfl))
 have hA0c5 : Acc st.n 1 [(c5, 0, [])] (.sl c5 0 0 0 1) [] := Acc.own (n0 := st.n) (z := 1) (c := c5) (m := 0) (ls := []) ((M.own c5 0 [] (by simp)).resolve_right (by simp)) (by simp) (by simp)
 refine wr_accS (L := []) (A := [(c5, 0, [])]) (B := []) K M hA0c5 sl_S_bool rfl rfl (RdR.mem M hl (by simp)) (bC_one _) (by simp only [List.length_nil]; omega) rfl fun ks7 A7 _ _ K hA7 M => ?_
 refine o1 K (os_assign rfl) rfl fun _ K => wr_nil ?_
 show W _ _ _ _ _ _ _
 refine w_ret ?_
 refine ⟨.inr rfl, _, (res_one (rs_tmp K rfl)), ?_⟩
 refine ⟨_, rfl, ?_, M.qt⟩
 have h := Mem.newR (L := []) (A := A7) (B := []) M hA7
 simpa using h

theorem indexL_ev {st : St} (hf : Fresh st) {LL : List (List Int)} {kL : AV} {lL : List (List AV)} (hLL : LsR st.h.get LL kL lL) {fo : FuncId} {fa fc : List AV} {p : List Int → Bool} (hC : ∀ (s : List Int) (w : AV) (st1 : St), s ∈ LL → Qt st st1 → RdR st1.h.get [] 1 (zC s) w → ∃ v st', Ev Tryz.prog envP fo (fa ++ ([w] ++ fc)) st1 v st' ∧ v = .bool (p s) ∧ Qt st1 st') : ∃ v st', Ev Tryz.prog envP 124 [kL, (AV.fn fo fa fc)] st v st' ∧ v = .int .i64 (idxP p LL 0) ∧ Qt st st' := by
 have hLb := hLL.r.bnd
 rw [hLL.ln] at hLb
 refine ev_fn rfl Tryz.func124 rfl Tryz.ntmps124 rfl (by decide) (by simp) fun T hT => ?_
 have K : KnT [(0, _), (1, _)] T := (.cons (hT 0) (.cons (hT 1) .nil))
 have M := Mem.start hf
 refine w_seq <| w_region <| o1 K (os_assign rfl) rfl fun _ K => wr_nil ?_
 show W _ _ _ _ _ _ _
 refine w_seq <| w_seq <| w_region <| o1 K (os_move rfl) rfl fun _ K => o1 K (os_lenL un_S_S_int rfl rfl hLL.len) rfl fun _ K => o1 K (os_move rfl) rfl fun _ K => wr_nil ?_
 show W _ _ _ _ _ _ _
 refine w_block ?_
 refine w_loop (fun mm1 T st9 => ∃ (i : Nat), mm1 = LL.length - i ∧ KnT [(0, kL), (1, (AV.fn fo fa fc)), (7, .int .i64 (((LL.length : Nat) : Int))), (8, .int .i64 (((i : Nat) : Int)))] T ∧ Mem st.h.get st.n [] st9 [] ∧ i ≤ LL.length ∧ idxP p LL 0 = idxP p (LL.drop i) i) (fun mm1 T st9 hI => ?_) _ _ _ ⟨0, rfl, (.cons (K _ _ rfl) (.cons (K _ _ rfl) (.cons (K _ _ rfl) (.cons (K _ _ rfl) .nil)))), M.less (.refl _), (Nat.zero_le _), rfl⟩
 obtain ⟨i, rfl, K, M, hi, hx⟩ := hI
 refine w_seq <| w_region <| o1 K (os_lss rfl rfl) rfl fun _ K => wr_nil ?_
 show W _ _ _ _ _ _ _
 refine w_seq ?_
 refine w_cond (K.opd rfl) (fun h9 => ?_) (fun h9 => ?_)
 ·have hb9 := h9
  replace h9 := of_decide_eq_true h9
  refine w_skip ?_
  show W _ _ _ _ _ _ _
  refine w_seq <| w_block <| w_seq <| w_region <| o1 K (os_move rfl) rfl fun _ K => o1 K (os_assign rfl) rfl fun _ K => wr_nil ?_
  show W _ _ _ _ _ _ _
  refine w_seq <| w_region <| o1 K (os_move rfl) rfl fun _ K => o1 K (os_move rfl) rfl fun _ K => o1 K (os_move rfl) rfl fun _ K => ?_
  obtain ⟨s14, hi14⟩ : ∃ x, LL[i]? = some x := ⟨_, List.getElem?_eq_getElem (by omega)⟩
  obtain ⟨_, hc14, w14, rfl, hr14, hz14⟩ := hLL.at_ _ _ hi14
  obtain ⟨x14, m14, f14, q14, _, la14, lo14, lp14⟩ := (RdR.mem M hLL.r (by simp)).load (i := i) (cs := _) hc14
  refine o1 K (os_indexAddr (j := i) el_S_S_int (congrArg some q14) rfl (by rw [hLL.ln]; omega)) rfl fun _ K => o1 K (os_load rfl (lo14 _ 0 _ tk_S_int rfl)) rfl fun _ K => ?_
  obtain ⟨v16, st16, ev16, rfl, q16⟩ := hC s14 _ _ (List.mem_of_getElem? hi14) M.qt (RdR.mem M hr14 (by simp))
  refine o1 K (os_callv rfl rfl ev16) rfl fun _ K => ?_
  replace M := M.quiet q16
  refine wr_nil ?_
  show W _ _ _ _ _ _ _
  refine w_cond (K.opd rfl) (fun h16 => ?_) (fun h16 => ?_)
  ·have hb16 := h16
   refine w_seq <| w_region <| o1 K (os_move rfl) rfl fun _ K => o1 K (os_assign rfl) rfl fun _ K => wr_nil ?_
   show W _ _ _ _ _ _ _
   refine w_ret ?_
   refine ⟨.inr rfl, _, (res_one (rs_tmp K rfl)), ?_⟩
   exact ⟨by rw [hx, idxP_step hi14, if_pos h16], M.qt⟩
  have hb16 := h16
  refine w_skip ?_
  show W _ _ _ _ _ _ _
  refine w_region <| o1 K (os_add rfl rfl (by omega) (by omega)) rfl fun _ K => o1 K (os_move rfl) rfl fun _ K => wr_nil ?_
  exact ⟨_, (by omega), i + 1, rfl, (.cons (K _ _ rfl) (.cons (K _ _ rfl) (.cons (K _ _ rfl) (.cons (K _ _ rfl) .nil)))), M.less (.refl _), (by omega), (by rw [hx, idxP_step hi14, if_neg (by rw [h16]; decide)])⟩
 have hb9 := h9
 replace h9 := of_decide_eq_false h9
 refine w_exit ?_
 show W _ _ _ _ _ _ _
 refine w_seq <| w_region <| o1 K (os_assign rfl) rfl fun _ K => wr_nil ?_
 show W _ _ _ _ _ _ _
 refine w_ret ?_
 refine ⟨.inr rfl, _, (res_one (rs_tmp K rfl)), ?_⟩
 exact ⟨by rw [hx, idxP_end (by omega)], M.qt⟩

theorem containsL_ev {st : St} (hf : Fresh st) {LL : List (List Int)} {kL : AV} {lL : List (List AV)} (hLL : LsR st.h.get LL kL lL) {fo : FuncId} {fa fc : List AV} {p : List Int → Bool} (hC : ∀ (s : List Int) (w : AV) (st1 : St), s ∈ LL → Qt st st1 → RdR st1.h.get [] 1 (zC s) w → ∃ v st', Ev Tryz.prog envP fo (fa ++ ([w] ++ fc)) st1 v st' ∧ v = .bool (p s) ∧ Qt st1 st') : ∃ v st', Ev Tryz.prog envP 92 [kL, (AV.fn fo fa fc)] st v st' ∧ v = .bool (LL.any p) ∧ Qt st st' := by
 have hLb := hLL.r.bnd
 rw [hLL.ln] at hLb
 refine ev_fn rfl Tryz.func92 rfl Tryz.ntmps92 rfl (by decide) (by simp) fun T hT => ?_
 have K : KnT [(0, _), (1, _)] T := (.cons (hT 0) (.cons (hT 1) .nil))
 have M := Mem.start hf
 refine w_seq <| w_region <| o1 K (os_assign rfl) rfl fun _ K => wr_nil ?_
 show W _ _ _ _ _ _ _
 refine w_seq <| w_region <| o1 K (os_move rfl) rfl fun _ K => o1 K (os_move rfl) rfl fun _ K => ?_
 obtain ⟨v7, st7, ev7, rfl, q7⟩ := indexL_ev M.fresh (hLL.old hf fun c hc => M.old c hc (by simp)) (fun s w st1 hs q hr => hC s w st1 hs (M.qt.trans q) hr)
 refine o1 K (os_call rfl ev7) rfl fun _ K => ?_
 replace M := M.quiet q7
 refine o1 K (os_geq rfl rfl) rfl fun _ K => o1 K (os_assign rfl) rfl fun _ K => wr_nil ?_
 show W _ _ _ _ _ _ _
 refine w_ret ?_
 refine ⟨.inr rfl, _, (res_one (rs_tmp K rfl)), ?_⟩
 exact ⟨by rw [← idxP_any p LL 0], M.qt⟩

theorem containsL_no {st : St} (hf : Fresh st) {LL : List (List Int)} {kL : AV} {lL : List (List AV)} (hLL : LsR st.h.get LL kL lL) {fo : FuncId} {fa fc : List AV} (hC : ∀ (s : List Int) (w : AV) (st1 : St), s ∈ LL → Qt st st1 → RdR st1.h.get [] 1 (zC s) w → ∃ v st', Ev Tryz.prog envP fo (fa ++ ([w] ++ fc)) st1 v st' ∧ v = .bool false ∧ Qt st1 st') : ∃ v st', Ev Tryz.prog envP 92 [kL, .fn fo fa fc] st v st' ∧ v = .bool false ∧ Qt st st' := by
 obtain ⟨v, st', h1, h2, h3⟩ := containsL_ev (p := fun _ => false) hf hLL hC
 exact ⟨v, st', h1, by rw [h2]; simp, h3⟩

theorem is1_ev {st : St} (hf : Fresh st) {cn : Nat} {n x : Int} (hc : RowV st.h.get cn 0 [.int .i64 n]) (h1 : 0 ≤ x) (h2 : x < n) : ∃ v st', Ev Tryz.prog envP 91 [.int .i64 x, .ptr cn 0 0] st v st' ∧ v = .bool false ∧ Qt st st' := by
 refine ev_fn rfl Tryz.func91 rfl Tryz.ntmps91 rfl (by decide) (by simp) fun T hT => ?_
 have K : KnT [(0, _), (1, _)] T := (.cons (hT 0) (.cons (hT 1) .nil))
 have M := Mem.start hf
 refine w_seq <| w_region <| o1 K (os_assign rfl) rfl fun _ K => wr_nil ?_
 show W _ _ _ _ _ _ _
 refine w_seq <| w_region <| o1 K (os_move rfl) rfl fun _ K => o1 K (os_lss rfl rfl) rfl fun _ K => ?_
 refine oB K (os_move rfl) rfl fun b6 _ e6 K => ?_
 cases b6
 ·replace e6 := of_decide_eq_false e6
  refine og K rfl rfl (os_move rfl) rfl fun _ K => og K rfl rfl (os_load rfl (ld_row (M.rowX (by simp) hc) (part_one tk_int rfl))) rfl fun _ K => og K rfl rfl (os_geq rfl rfl) rfl fun _ K => o1 K (os_pick rfl rfl rfl) rfl fun _ K => o1 K (os_assign rfl) rfl fun _ K => wr_nil ?_
  show W _ _ _ _ _ _ _
  refine w_ret ?_
  refine ⟨.inr rfl, _, (res_one (rs_tmp K rfl)), ?_⟩
  exact ⟨congrArg AV.bool (decide_eq_false (by omega)), M.qt⟩
 replace e6 := of_decide_eq_true e6
 exfalso; omega

theorem is2_ev {st : St} (hf : Fresh st) {a : Au} (wf : WFA a) {ka kn : AV} {ca cf cn : Nat} (hca : RowV st.h.get ca 0 [.int .i64 ((a.tr : Nat) : Int), ka, kn]) (hcf : RowV st.h.get cf 0 [.fn 91 [] [.ptr cn 0 0]]) (hcn : RowV st.h.get cn 0 [.int .i64 ((a.n : Nat) : Int)]) {r : List Int} {kl : AV} (hm : r ∈ a.nx) (hl : RdR st.h.get [] 1 (zC r) kl) : ∃ v st', Ev Tryz.prog envP 93 [kl, .ptr ca 0 0, .ptr cf 0 0] st v st' ∧ v = .bool false ∧ Qt st st' := by
 obtain ⟨hr1, hr2⟩ := wf.row r hm
 have hp := pow_le64 wf.tr
 have hr1' : r.length = 2 ^ a.tr := hr1
 have htr := wf.tr
 refine ev_fn rfl Tryz.func93 rfl Tryz.ntmps93 rfl (by decide) (by simp) fun T hT => ?_
 have K : KnT [(0, _), (1, _), (2, _)] T := (.cons (hT 0) (.cons (hT 1) (.cons (hT 2) .nil)))
 have M := Mem.start hf
 refine w_seq <| w_region <| o1 K (os_assign rfl) rfl fun _ K => wr_nil ?_
 show W _ _ _ _ _ _ _
 refine w_seq <| w_region <| o1 K (os_move rfl) rfl fun _ K => o1 K (os_lenL un_S_int rfl rfl (hl.len.trans (congrArg some (zC_len _)))) rfl fun _ K => o1 K (os_fieldAddr fo_api_Auto_0 rfl) rfl fun _ K => o1 K (os_load rfl (ld_row (M.rowX (by simp) hca) (part_one tk_int rfl))) rfl fun _ K => o1 K (os_shl1 (n := a.tr) rfl rfl (by omega)) rfl fun _ K => o1 K (os_neI rfl rfl) rfl fun _ K => ?_
 refine oB K (os_move rfl) rfl fun b11 _ e11 K => ?_
 cases b11
 ·replace e11 : (((r.length : Nat) : Int) = ((2 ^ a.tr : Nat) : Int)) := by simpa using e11
  refine og K rfl rfl (os_move rfl) rfl fun _ K => og K rfl rfl (os_load rfl (ld_row (M.rowX (by simp) hcf) (part_one tk_func_int__bool rfl))) rfl fun _ K => ?_
  obtain ⟨v14, st14, ev14, rfl, q14⟩ := containsZ_no (fo := 91) (fa := []) (fc := [.ptr cn 0 0]) M.fresh (RdR.mem M hl (by simp)) (by omega) (fun x hx st1 q => is1_ev q.fresh ((hcn.qt hf M.qt).qt M.fresh q) (hr2 x hx).1 (hr2 x hx).2)
  refine og K rfl rfl (os_call rfl ev14) rfl fun _ K => ?_
  replace M := M.quiet q14
  refine o1 K (os_pick rfl rfl rfl) rfl fun _ K => o1 K (os_assign rfl) rfl fun _ K => wr_nil ?_
  show W _ _ _ _ _ _ _
  refine w_ret ?_
  refine ⟨.inr rfl, _, (res_one (rs_tmp K rfl)), ?_⟩
  exact ⟨rfl, M.qt⟩
 replace e11 : ¬ (((r.length : Nat) : Int) = ((2 ^ a.tr : Nat) : Int)) := by simpa using e11
 exfalso; omega

theorem aIs_ev {st : St} (hf : Fresh st) {a : Au} (wf : WFA a) {ka kn : AV} {ls : List (List AV)} (hA : RdR st.h.get [] 1 (bC a.acc) ka) (hN : LsR st.h.get a.nx kn ls) : ∃ v st', Ev Tryz.prog envP 69 [.agg [.int .i64 (((a.tr : Nat) : Int)), ka, kn]] st v st' ∧ v = .bool true ∧ Qt st st' := by
 have htr := wf.tr; have hps := wf.pos; have hmo := wf.most; have hln := wf.len; have hen : a.n = a.acc.length := rfl
 have hac := hA.cell; have hnc := hN.r.cell
 refine ev_fn rfl Tryz.func69 rfl Tryz.ntmps69 rfl (by decide) (by simp) fun T hT => ?_
 have K : KnT [(0, _)] T := (.cons (hT 0) .nil)
 have M := Mem.start hf
 refine w_seq <| w_region ?_
 refine wr_box K M rfl (cl_cons rfl (cl_cons hA.cell (cl_cons hN.r.cell cl_nil))) (by decide) fun c1 _ _ K M => ?_
 refine o1 K (os_assign rfl) rfl fun _ K => wr_nil ?_
 show W _ _ _ _ _ _ _
 refine w_seq <| w_region <| o1 K (os_fieldAddr fo_api_Auto_1 rfl) rfl fun _ K => o1 K (os_load rfl (M.load (k := 0) rfl (part_one tk_S_bool rfl))) rfl fun _ K => o1 K (os_lenL un_S_bool rfl rfl (hA.len.trans (congrArg some (bC_len _)))) rfl fun _ K => ?_
 refine wr_alloc K M ze_int (by decide) fun c3 _ _ K M => ?_
 refine wr_store (k := 0) K M rfl rfl rfl sz_int rfl rfl rfl fun _ M => ?_
 refine wr_nil ?_
 show W _ _ _ _ _ _ _
 refine w_seq <| w_seq <| w_region <| o1 K (os_fieldAddr fo_api_Auto_0 rfl) rfl fun _ K => o1 K (os_load rfl (M.load (k := 1) rfl (part_one tk_int rfl))) rfl fun _ K => o1 K (os_lss rfl rfl) rfl fun _ K => ?_
 refine oB K (os_move rfl) rfl fun b11 _ e11 K => ?_
 cases b11
 ·replace e11 := of_decide_eq_false e11
  refine og K rfl rfl (os_fieldAddr fo_api_Auto_0 rfl) rfl fun _ K => og K rfl rfl (os_load rfl (M.load (k := 1) rfl (part_one tk_int rfl))) rfl fun _ K => og K rfl rfl (os_gtr rfl rfl) rfl fun _ K => o1 K (os_pick rfl rfl rfl) rfl fun _ K => ?_
  refine oB K (os_move rfl) rfl fun b16 _ e16 K => ?_
  cases b16
  ·replace e16 := of_decide_eq_false e16
   refine og K rfl rfl (os_load rfl (M.load (k := 0) rfl (part_one tk_int rfl))) rfl fun _ K => og K rfl rfl (os_lss rfl rfl) rfl fun _ K => o1 K (os_pick rfl rfl rfl) rfl fun _ K => ?_
   refine oB K (os_move rfl) rfl fun b20 _ e20 K => ?_
   cases b20
   ·replace e20 := of_decide_eq_false e20
    refine og K rfl rfl (os_load rfl (M.load (k := 0) rfl (part_one tk_int rfl))) rfl fun _ K => og K rfl rfl (os_gtr rfl rfl) rfl fun _ K => o1 K (os_pick rfl rfl rfl) rfl fun _ K => ?_
    refine oB K (os_move rfl) rfl fun b24 _ e24 K => ?_
    cases b24
    ·replace e24 := of_decide_eq_false e24
     refine og K rfl rfl (os_fieldAddr fo_api_Auto_2 rfl) rfl fun _ K => og K rfl rfl (os_load rfl (M.load (k := 1) rfl (part_one tk_S_S_int rfl))) rfl fun _ K => og K rfl rfl (os_lenL un_S_S_int rfl rfl hN.len) rfl fun _ K => og K rfl rfl (os_load rfl (M.load (k := 0) rfl (part_one tk_int rfl))) rfl fun _ K => og K rfl rfl (os_neI rfl rfl) rfl fun _ K => o1 K (os_pick rfl rfl rfl) rfl fun _ K => wr_nil ?_
     show W _ _ _ _ _ _ _
     refine w_cond (K.opd rfl) (fun h30 => ?_) (fun h30 => ?_)
     ·have hb30 := h30
      replace h30 : ¬ (((a.nx.length : Nat) : Int) = ((a.acc.length : Nat) : Int)) := by simpa using h30
      exfalso; omega
     have hb30 := h30
     replace h30 : (((a.nx.length : Nat) : Int) = ((a.acc.length : Nat) : Int)) := by simpa using h30
     refine w_skip ?_
     show W _ _ _ _ _ _ _
     refine w_seq <| w_region <| o1 K (os_func rfl rfl) rfl fun _ K => ?_
     refine wr_alloc K M ze_func_int__bool (by decide) fun c4 _ _ K M => ?_
     refine wr_store (k := 0) K M rfl rfl rfl sz_func_int__bool rfl rfl rfl fun _ M => ?_
     refine wr_nil ?_
     show W _ _ _ _ _ _ _
     refine w_seq <| w_region <| o1 K (os_fieldAddr fo_api_Auto_2 rfl) rfl fun _ K => o1 K (os_load rfl (M.load (k := 2) rfl (part_one tk_S_S_int rfl))) rfl fun _ K => o1 K (os_func rfl rfl) rfl fun _ K => ?_
     have hrw1 := (M.row1 (k := 2) rfl).rowV; have hrw3 := (M.row1 (k := 1) rfl).rowV; have hrw4 := (M.row1 (k := 0) rfl).rowV
     have hfr := M.fresh
     obtain ⟨v35, st35, ev35, rfl, q35⟩ := containsL_no (fo := 93) (fa := []) (fc := [.ptr c1 0 0, .ptr c4 0 0]) M.fresh (hN.old hf fun c hc => M.old c hc (by simp)) (fun s w st1 hs q hr => is2_ev q.fresh wf (hrw1.qt hfr q) (hrw4.qt hfr q) (hrw3.qt hfr q) hs hr)
     refine o1 K (os_call rfl ev35) rfl fun _ K => ?_
     replace M := M.quiet q35
     refine o1 K (os_not rfl) rfl fun _ K => o1 K (os_assign rfl) rfl fun _ K => wr_nil ?_
     show W _ _ _ _ _ _ _
     refine w_ret ?_
     refine ⟨.inr rfl, _, (res_one (rs_tmp K rfl)), ?_⟩
     exact ⟨rfl, M.qt⟩
    replace e24 := of_decide_eq_true e24
    exfalso; omega
   replace e20 := of_decide_eq_true e20
   exfalso; omega
  replace e16 := of_decide_eq_true e16
  exfalso; omega
 replace e11 := of_decide_eq_true e11
 exfalso; omega
end Go.Proofs.YtiknomepbklibaaGreatDoor
