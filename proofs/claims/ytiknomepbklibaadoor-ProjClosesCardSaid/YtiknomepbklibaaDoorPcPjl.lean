/-
  What the laws of chapter 22 look at first; ProjCloses.
-/
import Derived.Test.YtiknomepbklibaaDoorPcPja
import Derived.Test.YtiknomepbklibaaDoorPcR19
namespace Go.Proofs.YtiknomepbklibaaDoor
open Go Go.RowKit
set_option linter.unusedVariables false
set_option linter.unusedSimpArgs false
set_option linter.unnecessarySimpa false
set_option maxRecDepth 100000
set_option maxHeartbeats 4000000

theorem may22_ev {st : St} (hf : Fresh st) {t : Int} {acc : List Bool} {nx : List (List Int)} {ka kn : AV} {ls : List (List AV)} (hA : RdR st.h.get [] 1 (bC acc) ka) (hN : LsR st.h.get nx kn ls) : ∃ v st', Ev Tryd.prog envP 6 [.agg [.int .i64 t, ka, kn]] st v st' ∧ ∃ b, v = .bool b ∧ (b = true → 0 ≤ t ∧ WFA ⟨t.toNat, acc, nx⟩ ∧ acc.length ≤ 40) ∧ Qt st st' := by
 have hac := hA.cell; have hnc := hN.r.cell
 have hbnacc : (acc.length : Int) ≤ 9223372036854775807 := by have := hA.bnd; rw [bC_len] at this; exact this
 have hbn : (nx.length : Int) ≤ 9223372036854775807 := by have := hN.r.bnd; rw [hN.ln] at this; exact this
 refine ev_fn rfl Tryd.func6 rfl Tryd.ntmps6 rfl (by decide) (by simp) fun T hT => ?_
 have K : KnT [(0, _)] T := (.cons (hT 0) .nil)
 have M := Mem.start hf
 refine w_seq <| w_region ?_
 refine wr_box K M rfl (cl_cons rfl (cl_cons hA.cell (cl_cons hN.r.cell cl_nil))) (by decide) fun c1 _ _ K M => ?_
 refine o1 K (os_assign rfl) rfl fun _ K => wr_nil ?_
 show W _ _ _ _ _ _ _
 refine w_seq <| w_region <| o1 K (os_fieldAddr fo_api_Auto_1 rfl) rfl fun _ K => o1 K (os_load rfl (M.load (k := 0) rfl (part_one tk_S_bool rfl))) rfl fun _ K => o1 K (os_lenL un_S_bool rfl rfl (hA.len.trans (congrArg some (bC_len _)))) rfl fun _ K => o1 K (os_leq rfl rfl) rfl fun _ K => ?_
 refine oB K (os_move rfl) rfl fun b7 _ e7 K => ?_
 cases b7
 · replace e7 := of_decide_eq_false e7
   refine gn K rfl rfl rfl rfl fun _ K => gn K rfl rfl rfl rfl fun _ K => gn K rfl rfl rfl rfl fun _ K => gn K rfl rfl rfl rfl fun _ K => o1 K (os_pick rfl rfl rfl) rfl fun _ K => o1 K (os_move rfl) rfl fun _ K => gn K rfl rfl rfl rfl fun _ K => gn K rfl rfl rfl rfl fun _ K => o1 K (os_pick rfl rfl rfl) rfl fun _ K => ?_
   refine o1 K (os_assign rfl) rfl fun _ K => wr_nil ?_
   show W _ _ _ _ _ _ _
   refine w_ret ?_
   refine ⟨.inr rfl, _, (res_one (rs_tmp K rfl)), ?_⟩
   first
    | exact ⟨false, rfl, (fun h => by cases h), M.qt⟩
    | exact ⟨bis, rfl, (fun h => ⟨(hbis h).1, (hbis h).2, by omega⟩), M.qt⟩
    | (refine ⟨_, rfl, (fun h => ?_), M.qt⟩; exfalso; revert h; simp [bif_true, bif_false]; omega)
 replace e7 := of_decide_eq_true e7
 refine og K rfl rfl (os_fieldAddr fo_api_Auto_2 rfl) rfl fun _ K => og K rfl rfl (os_load rfl (M.load (k := 0) rfl (part_one tk_S_S_int rfl))) rfl fun _ K => og K rfl rfl (os_lenL un_S_S_int rfl rfl hN.len) rfl fun _ K => og K rfl rfl (os_leq rfl rfl) rfl fun _ K => o1 K (os_pick rfl rfl rfl) rfl fun _ K => ?_
 refine oB K (os_move rfl) rfl fun b13 _ e13 K => ?_
 cases b13
 · replace e13 := of_decide_eq_false e13
   refine gn K rfl rfl rfl rfl fun _ K => gn K rfl rfl rfl rfl fun _ K => o1 K (os_pick rfl rfl rfl) rfl fun _ K => o1 K (os_assign rfl) rfl fun _ K => wr_nil ?_
   show W _ _ _ _ _ _ _
   refine w_ret ?_
   refine ⟨.inr rfl, _, (res_one (rs_tmp K rfl)), ?_⟩
   first
    | exact ⟨false, rfl, (fun h => by cases h), M.qt⟩
    | exact ⟨bis, rfl, (fun h => ⟨(hbis h).1, (hbis h).2, by omega⟩), M.qt⟩
    | (refine ⟨_, rfl, (fun h => ?_), M.qt⟩; exfalso; revert h; simp [bif_true, bif_false]; omega)
 replace e13 := of_decide_eq_true e13
 refine og K rfl rfl (os_load rfl (M.load (k := 0) rfl (part_agg tk_api_Auto rfl))) rfl fun _ K => ?_
 obtain ⟨v15, st15, ev15, bis, rfl, hbis, q15⟩ := r19Is_ev M.fresh (RdR.mem M hA (by simp)) (hN.old hf fun c hc => M.old c hc (by simp))
 refine og K rfl rfl (os_call rfl ev15) rfl fun _ K => ?_
 replace M := M.quiet q15
 refine o1 K (os_pick rfl rfl rfl) rfl fun _ K => o1 K (os_assign rfl) rfl fun _ K => wr_nil ?_
 show W _ _ _ _ _ _ _
 refine w_ret ?_
 refine ⟨.inr rfl, _, (res_one (rs_tmp K rfl)), ?_⟩
 first
  | exact ⟨false, rfl, (fun h => by cases h), M.qt⟩
  | exact ⟨bis, rfl, (fun h => ⟨(hbis h).1, (hbis h).2, by omega⟩), M.qt⟩
  | (refine ⟨_, rfl, (fun h => ?_), M.qt⟩; exfalso; revert h; simp [bif_true, bif_false]; omega)

theorem of22_ev {st : St} (hf : Fresh st) {a : Au} (wf : WFA a) {ka kn : AV} {ls : List (List AV)} (hA : RdR st.h.get [] 1 (bC a.acc) ka) (hN : LsR st.h.get a.nx kn ls) : ∃ v st', Ev Tryd.prog envP 8 [.agg [.int .i64 (((a.tr : Nat) : Int)), ka, kn]] st v st' ∧ ∃ dp F, v = .ptr dp 0 0 ∧ DfaI st' F dp a ∧ NewF st st' F ∧ Qt st st' := by
 have hac := hA.cell; have hnc := hN.r.cell
 have B := MemO.start hf
 refine ev_fn rfl Tryd.func8 rfl Tryd.ntmps8 rfl (by decide) (by simp) fun T hT => ?_
 have K : KnT [(0, _)] T := (.cons (hT 0) .nil)
 have M := B.mem
 refine w_seq <| w_region ?_
 refine wr_box K M rfl (cl_cons rfl (cl_cons hA.cell (cl_cons hN.r.cell cl_nil))) (by decide) fun c1 _ _ K M => ?_
 refine o1 K (os_assign rfl) rfl fun _ K => wr_nil ?_
 show W _ _ _ _ _ _ _
 refine w_seq <| w_region <| o1 K (os_load rfl (M.load (k := 0) rfl (part_agg tk_api_Auto rfl))) rfl fun _ K => ?_
 replace B := B.step M
 obtain ⟨v7, st7, ev7, dp, F1, rfl, hD, nf, q7⟩ := aFrom_ev B.fresh wf (B.rd0 hf hA) (hN.old hf fun c hc => B.old c hc id)
 refine o1 K (os_call rfl ev7) rfl fun _ K => ?_
 replace B := B.new (o := dfaO F1 dp a) q7 hD.at_ nf
 have M := B.mem
 refine o1 K (os_move rfl) rfl fun _ K => o1 K (os_extract rfl rfl) rfl fun _ K => o1 K (os_extract rfl rfl) rfl fun _ K => o1 K (os_assign rfl) rfl fun _ K => o1 K (os_assign rfl) rfl fun _ K => wr_nil ?_
 show W _ _ _ _ _ _ _
 refine w_seq <| w_seq <| w_region <| o1 K (os_move rfl) rfl fun _ K => o1 K (os_neI rfl rfl) rfl fun _ K => wr_nil ?_
 show W _ _ _ _ _ _ _
 refine w_cond (K.opd rfl) (fun h11 => ?_) (fun h11 => ?_)
 ·have hb11 := h11
  replace h11 : ¬ (0 = 0) := by first | simpa using h11 | (intro hq; rw [decide_eq_true hq] at h11; cases h11)
  exact absurd rfl h11
 have hb11 := h11
 replace h11 : (0 = 0) := by first | simpa using h11 | (by_cases hq : (0 = 0); exact hq; rw [decide_eq_false hq] at h11; cases h11)
 refine w_skip ?_
 show W _ _ _ _ _ _ _
 refine w_seq <| w_region <| o1 K (os_move rfl) rfl fun _ K => o1 K (os_assign rfl) rfl fun _ K => wr_nil ?_
 show W _ _ _ _ _ _ _
 refine w_ret ?_
 refine ⟨.inr rfl, _, (res_one (rs_tmp K rfl)), ?_⟩
 replace B := B.step M
 exact ⟨dp, F1, rfl, B.dfa (k := 0) rfl, B.lo0 (k := 0) rfl, B.qt⟩

theorem pCloseNo_ev {st : St} (hf : Fresh st) {F : Fp} {dp : Nat} {a : Au} (hD : DfaI st F dp a) {k : Int} (hk : ¬ (0 ≤ k ∧ k < a.tr)) : ∃ v st', Ev Tryd.prog envP 7 [.ptr dp 0 0, .int .i64 k] st v st' ∧ v = .tup [.nilp, .int .i64 1] ∧ Qt st st' := by
 refine ev_fn rfl Tryd.func7 rfl Tryd.ntmps7 rfl (by decide) (by simp) fun T hT => ?_
 have K : KnT [(0, _), (1, _)] T := (.cons (hT 0) (.cons (hT 1) .nil))
 have M := Mem.start hf
 refine w_seq <| w_region <| o1 K (os_assign rfl) rfl fun _ K => o1 K (os_assign rfl) rfl fun _ K => wr_nil ?_
 show W _ _ _ _ _ _ _
 refine w_seq <| w_seq <| w_region <| o1 K (os_move rfl) rfl fun _ K => o1 K (os_move rfl) rfl fun _ K => ?_
 obtain ⟨v12, st12, ev12, rfl, q12⟩ := isTrack_ev M.fresh (hD.q M.qt) k
 refine o1 K (os_call rfl ev12) rfl fun _ K => ?_
 replace M := M.quiet q12
 refine o1 K (os_not rfl) rfl fun _ K => wr_nil ?_
 show W _ _ _ _ _ _ _
 refine w_cond (K.opd rfl) (fun h13 => ?_) (fun h13 => ?_)
 ·have hb13 := h13
  replace h13 : ¬ (0 ≤ k ∧ k < a.tr) := by first | simpa using h13 | (intro hq; rw [decide_eq_true hq] at h13; cases h13)
  refine w_seq <| w_region <| o1 K (os_assign rfl) rfl fun _ K => o1 K (os_assign rfl) rfl fun _ K => wr_nil ?_
  show W _ _ _ _ _ _ _
  refine w_ret ?_
  refine ⟨.inr rfl, _, (res_two (rs_tmp K rfl) (rs_tmp K rfl)), ?_⟩
  exact ⟨rfl, M.qt⟩
 have hb13 := h13
 replace h13 : (0 ≤ k ∧ k < a.tr) := by first | simpa using h13 | (by_cases hq : (0 ≤ k ∧ k < a.tr); exact hq; rw [decide_eq_false hq] at h13; cases h13)
 exfalso; omega

theorem projClosesNo_ev {st : St} (hf : Fresh st) {t : Int} {acc : List Bool} {nx : List (List Int)} {ka kn : AV} {ls : List (List AV)} (hA : RdR st.h.get [] 1 (bC acc) ka) (hN : LsR st.h.get nx kn ls) {k : Int} (hk : ¬ (0 ≤ k ∧ k < t)) : ∃ v st', Ev Tryd.prog envP 3 [.agg [.int .i64 t, ka, kn], .int .i64 k] st v st' ∧ v = .bool true := by
 have hac := hA.cell; have hnc := hN.r.cell
 have hbnacc : (acc.length : Int) ≤ 9223372036854775807 := by have := hA.bnd; rw [bC_len] at this; exact this
 have hbn : (nx.length : Int) ≤ 9223372036854775807 := by have := hN.r.bnd; rw [hN.ln] at this; exact this
 have B := MemO.start hf
 refine ev_fn rfl Tryd.func3 rfl Tryd.ntmps3 rfl (by decide) (by simp) fun T hT => ?_
 have K : KnT [(0, _), (1, _)] T := (.cons (hT 0) (.cons (hT 1) .nil))
 have M := B.mem
 refine w_seq <| w_region ?_
 refine wr_box K M rfl (cl_cons rfl (cl_cons hA.cell (cl_cons hN.r.cell cl_nil))) (by decide) fun c2 _ _ K M => ?_
 refine o1 K (os_assign rfl) rfl fun _ K => wr_nil ?_
 show W _ _ _ _ _ _ _
 refine w_seq <| w_seq <| w_region <| o1 K (os_load rfl (M.load (k := 0) rfl (part_agg tk_api_Auto rfl))) rfl fun _ K => ?_
 obtain ⟨v8, st8, ev8, bm, rfl, hbm, q8⟩ := may22_ev M.fresh ((B.step M).rd0 hf hA) (hN.old hf fun c hc => (B.step M).old c hc id)
 refine o1 K (os_call rfl ev8) rfl fun _ K => ?_
 replace M := M.quiet q8
 refine o1 K (os_not rfl) rfl fun _ K => wr_nil ?_
 show W _ _ _ _ _ _ _
 refine w_cond (K.opd rfl) (fun h9 => ?_) (fun h9 => ?_)
 · have hb9 := h9
   replace h9 : (bm) = false := by first | simpa using h9 | (revert h9; cases (bm) <;> simp)
   refine w_seq <| w_region <| o1 K (os_assign rfl) rfl fun _ K => wr_nil ?_
   show W _ _ _ _ _ _ _
   refine w_ret ?_
   refine ⟨.inr rfl, _, (res_one (rs_tmp K rfl)), ?_⟩
   first
    | rfl
    | (exfalso; omega)
    | (exfalso; simp_all; done)
 have hb9 := h9
 replace h9 : (bm) = true := by first | simpa using h9 | (revert h9; cases (bm) <;> simp)
 refine w_skip ?_
 show W _ _ _ _ _ _ _
 refine w_seq <| w_region <| o1 K (os_load rfl (M.load (k := 0) rfl (part_agg tk_api_Auto rfl))) rfl fun _ K => ?_
 obtain ⟨ht0, wf, h40⟩ := hbm (by simpa using h9)
 obtain ⟨tn, rfl⟩ : ∃ m : Nat, t = ((m : Nat) : Int) := ⟨t.toNat, by omega⟩
 rw [Int.toNat_natCast] at wf
 replace B := B.step M
 obtain ⟨v12, st12, ev12, dp, F1, rfl, hD, nf, q12⟩ := of22_ev (a := ⟨tn, acc, nx⟩) B.fresh wf (B.rd0 hf hA) (hN.old hf fun c hc => B.old c hc id)
 refine o1 K (os_call rfl ev12) rfl fun _ K => ?_
 replace B := B.new (o := dfaO F1 dp ⟨tn, acc, nx⟩) q12 hD.at_ nf
 have M := B.mem
 refine o1 K (os_move rfl) rfl fun _ K => ?_
 obtain ⟨v14, st14, ev14, rfl, q14⟩ := pCloseNo_ev M.fresh ((B.step M).dfa (k := 0) rfl) hk
 refine o1 K (os_call rfl ev14) rfl fun _ K => ?_
 replace M := M.quiet q14
 refine o1 K (os_move rfl) rfl fun _ K => o1 K (os_extract rfl rfl) rfl fun _ K => o1 K (os_extract rfl rfl) rfl fun _ K => o1 K (os_assign rfl) rfl fun _ K => o1 K (os_assign rfl) rfl fun _ K => wr_nil ?_
 show W _ _ _ _ _ _ _
 refine w_seq <| w_seq <| w_region <| o1 K (os_move rfl) rfl fun _ K => o1 K (os_lss rfl rfl) rfl fun _ K => ?_
 refine oB K (os_move rfl) rfl fun b19 _ e19 K => ?_
 cases b19
 · replace e19 := of_decide_eq_false e19
   refine og K rfl rfl (os_move rfl) rfl fun _ K => og K rfl rfl (os_fieldAddr fo_api_Auto_0 rfl) rfl fun _ K => og K rfl rfl (os_load rfl (M.load (k := 0) rfl (part_one tk_int rfl))) rfl fun _ K => og K rfl rfl (os_geq rfl rfl) rfl fun _ K => o1 K (os_pick rfl rfl rfl) rfl fun _ K => wr_nil ?_
   show W _ _ _ _ _ _ _
   refine w_cond (K.opd rfl) (fun h24 => ?_) (fun h24 => ?_)
   · have hb24 := h24
     replace h24 := of_decide_eq_true h24
     refine w_seq <| w_region <| o1 K (os_move rfl) rfl fun _ K => o1 K (os_eqI rfl rfl) rfl fun _ K => ?_
     refine oB K (os_move rfl) rfl fun b27 _ e27 K => ?_
     cases b27
     · replace e27 := of_decide_eq_false e27
       refine gn K rfl rfl rfl rfl fun _ K => gn K rfl rfl rfl rfl fun _ K => o1 K (os_pick rfl rfl rfl) rfl fun _ K => o1 K (os_move rfl) rfl fun _ K => gn K rfl rfl rfl rfl fun _ K => o1 K (os_pick rfl rfl rfl) rfl fun _ K => o1 K (os_assign rfl) rfl fun _ K => wr_nil ?_
       show W _ _ _ _ _ _ _
       refine w_ret ?_
       refine ⟨.inr rfl, _, (res_one (rs_tmp K rfl)), ?_⟩
       first
        | rfl
        | (exfalso; omega)
        | (exfalso; simp_all; done)
     replace e27 := of_decide_eq_true e27
     refine og K rfl rfl (os_move rfl) rfl fun _ K => og K rfl rfl (os_eqPP un_P_auto_DFA rfl rfl) rfl fun _ K => o1 K (os_pick rfl rfl rfl) rfl fun _ K => o1 K (os_move rfl) rfl fun _ K => ?_
     have ev32 := known22_ev
     refine og K rfl rfl (os_call rfl (ev32 _)) rfl fun _ K => o1 K (os_pick rfl rfl rfl) rfl fun _ K => o1 K (os_assign rfl) rfl fun _ K => wr_nil ?_
     show W _ _ _ _ _ _ _
     refine w_ret ?_
     refine ⟨.inr rfl, _, (res_one (rs_tmp K rfl)), ?_⟩
     first
      | rfl
      | (exfalso; omega)
      | (exfalso; simp_all; done)
   have hb24 := h24
   replace h24 := of_decide_eq_false h24
   exfalso; omega
 replace e19 := of_decide_eq_true e19
 refine gn K rfl rfl rfl rfl fun _ K => gn K rfl rfl rfl rfl fun _ K => gn K rfl rfl rfl rfl fun _ K => gn K rfl rfl rfl rfl fun _ K => o1 K (os_pick rfl rfl rfl) rfl fun _ K => wr_nil ?_
 show W _ _ _ _ _ _ _
 refine w_cond (t := true) (K.opd rfl) (fun _ => ?_) (fun h => by cases h)
 refine w_seq <| w_region <| o1 K (os_move rfl) rfl fun _ K => o1 K (os_eqI rfl rfl) rfl fun _ K => ?_
 refine oB K (os_move rfl) rfl fun b27 _ e27 K => ?_
 cases b27
 · replace e27 := of_decide_eq_false e27
   refine gn K rfl rfl rfl rfl fun _ K => gn K rfl rfl rfl rfl fun _ K => o1 K (os_pick rfl rfl rfl) rfl fun _ K => o1 K (os_move rfl) rfl fun _ K => gn K rfl rfl rfl rfl fun _ K => o1 K (os_pick rfl rfl rfl) rfl fun _ K => o1 K (os_assign rfl) rfl fun _ K => wr_nil ?_
   show W _ _ _ _ _ _ _
   refine w_ret ?_
   refine ⟨.inr rfl, _, (res_one (rs_tmp K rfl)), ?_⟩
   first
    | rfl
    | (exfalso; omega)
    | (exfalso; simp_all; done)
 replace e27 := of_decide_eq_true e27
 refine og K rfl rfl (os_move rfl) rfl fun _ K => og K rfl rfl (os_eqPP un_P_auto_DFA rfl rfl) rfl fun _ K => o1 K (os_pick rfl rfl rfl) rfl fun _ K => o1 K (os_move rfl) rfl fun _ K => ?_
 have ev32 := known22_ev
 refine og K rfl rfl (os_call rfl (ev32 _)) rfl fun _ K => o1 K (os_pick rfl rfl rfl) rfl fun _ K => o1 K (os_assign rfl) rfl fun _ K => wr_nil ?_
 show W _ _ _ _ _ _ _
 refine w_ret ?_
 refine ⟨.inr rfl, _, (res_one (rs_tmp K rfl)), ?_⟩
 first
  | rfl
  | (exfalso; omega)
  | (exfalso; simp_all; done)

theorem projClosesYes_ev {st : St} (hf : Fresh st) {t : Int} {acc : List Bool} {nx : List (List Int)} {ka kn : AV} {ls : List (List AV)} (hA : RdR st.h.get [] 1 (bC acc) ka) (hN : LsR st.h.get nx kn ls) {k : Int} (hk : 0 ≤ k ∧ k < t) : ∃ v st', Ev Tryd.prog envP 3 [.agg [.int .i64 t, ka, kn], .int .i64 k] st v st' ∧ v = .bool true := by
 have hac := hA.cell; have hnc := hN.r.cell
 have hbnacc : (acc.length : Int) ≤ 9223372036854775807 := by have := hA.bnd; rw [bC_len] at this; exact this
 have hbn : (nx.length : Int) ≤ 9223372036854775807 := by have := hN.r.bnd; rw [hN.ln] at this; exact this
 have B := MemO.start hf
 refine ev_fn rfl Tryd.func3 rfl Tryd.ntmps3 rfl (by decide) (by simp) fun T hT => ?_
 have K : KnT [(0, _), (1, _)] T := (.cons (hT 0) (.cons (hT 1) .nil))
 have M := B.mem
 refine w_seq <| w_region ?_
 refine wr_box K M rfl (cl_cons rfl (cl_cons hA.cell (cl_cons hN.r.cell cl_nil))) (by decide) fun c2 _ _ K M => ?_
 refine o1 K (os_assign rfl) rfl fun _ K => wr_nil ?_
 show W _ _ _ _ _ _ _
 refine w_seq <| w_seq <| w_region <| o1 K (os_load rfl (M.load (k := 0) rfl (part_agg tk_api_Auto rfl))) rfl fun _ K => ?_
 obtain ⟨v8, st8, ev8, bm, rfl, hbm, q8⟩ := may22_ev M.fresh ((B.step M).rd0 hf hA) (hN.old hf fun c hc => (B.step M).old c hc id)
 refine o1 K (os_call rfl ev8) rfl fun _ K => ?_
 replace M := M.quiet q8
 refine o1 K (os_not rfl) rfl fun _ K => wr_nil ?_
 show W _ _ _ _ _ _ _
 refine w_cond (K.opd rfl) (fun h9 => ?_) (fun h9 => ?_)
 ·have hb9 := h9
  replace h9 : (bm) = false := by first | simpa using h9 | (revert h9; cases (bm) <;> simp)
  refine w_seq <| w_region <| o1 K (os_assign rfl) rfl fun _ K => wr_nil ?_
  show W _ _ _ _ _ _ _
  refine w_ret ?_
  refine ⟨.inr rfl, _, (res_one (rs_tmp K rfl)), ?_⟩
  first
   | rfl
   | (exfalso; omega)
   | (exfalso; simp_all; done)
 have hb9 := h9
 replace h9 : (bm) = true := by first | simpa using h9 | (revert h9; cases (bm) <;> simp)
 refine w_skip ?_
 show W _ _ _ _ _ _ _
 refine w_seq <| w_region <| o1 K (os_load rfl (M.load (k := 0) rfl (part_agg tk_api_Auto rfl))) rfl fun _ K => ?_
 obtain ⟨ht0, wf, h40⟩ := hbm (by simpa using h9)
 obtain ⟨tn, rfl⟩ : ∃ m : Nat, t = ((m : Nat) : Int) := ⟨t.toNat, by omega⟩
 rw [Int.toNat_natCast] at wf
 replace B := B.step M
 obtain ⟨v12, st12, ev12, dp, F1, rfl, hD, nf, q12⟩ := of22_ev (a := ⟨tn, acc, nx⟩) B.fresh wf (B.rd0 hf hA) (hN.old hf fun c hc => B.old c hc id)
 refine o1 K (os_call rfl ev12) rfl fun _ K => ?_
 replace B := B.new (o := dfaO F1 dp ⟨tn, acc, nx⟩) q12 hD.at_ nf
 have M := B.mem
 refine o1 K (os_move rfl) rfl fun _ K => ?_
 obtain ⟨kk, rfl⟩ : ∃ m : Nat, k = ((m : Nat) : Int) := ⟨k.toNat, by omega⟩
 have hkt : kk < tn := by omega
 replace B := B.step M
 obtain ⟨v14, st14, ev14, dp2, F2, acc1, rfl, hca1, hD2, nf2, q14⟩ := pClose_ev B.fresh (B.dfa (k := 0) rfl) (k := kk) hkt
 refine o1 K (os_call rfl ev14) rfl fun _ K => ?_
 replace B := B.new (o := dfaO F2 dp2 ⟨tn, acc1, nx⟩) q14 hD2.at_ nf2
 have M := B.mem
 refine o1 K (os_move rfl) rfl fun _ K => o1 K (os_extract rfl rfl) rfl fun _ K => o1 K (os_extract rfl rfl) rfl fun _ K => o1 K (os_assign rfl) rfl fun _ K => o1 K (os_assign rfl) rfl fun _ K => wr_nil ?_
 show W _ _ _ _ _ _ _
 refine w_seq <| w_seq <| w_region <| o1 K (os_move rfl) rfl fun _ K => o1 K (os_lss rfl rfl) rfl fun _ K => ?_
 refine oB K (os_move rfl) rfl fun b19 _ e19 K => ?_
 cases b19
 ·replace e19 := of_decide_eq_false e19
  refine og K rfl rfl (os_move rfl) rfl fun _ K => og K rfl rfl (os_fieldAddr fo_api_Auto_0 rfl) rfl fun _ K => og K rfl rfl (os_load rfl (M.load (k := 0) rfl (part_one tk_int rfl))) rfl fun _ K => og K rfl rfl (os_geq rfl rfl) rfl fun _ K => o1 K (os_pick rfl rfl rfl) rfl fun _ K => wr_nil ?_
  show W _ _ _ _ _ _ _
  refine w_cond (K.opd rfl) (fun h24 => ?_) (fun h24 => ?_)
  · have hb24 := h24
    replace h24 := of_decide_eq_true h24
    exfalso; omega
  have hb24 := h24
  replace h24 := of_decide_eq_false h24
  refine w_skip ?_
  show W _ _ _ _ _ _ _
  refine w_seq ?_
  refine w_drawI (l := [(0, 0), (1, 0), (2, 0), (3, 0), (4, 0), (5, 0), (6, 0), (7, 0), (8, 0), (9, 1), (10, 0), (11, 0), (12, 0), (13, 0), (14, 0), (15, 0), (16, 0), (17, 0)]) (by kernel_rfl) ?_
  have Mq := M
  refine d1 rfl K (os_move rfl) rfl rfl fun _ K => d1 rfl K (os_eqI rfl rfl) rfl rfl fun _ K => ?_
  refine dB rfl K (os_move rfl) rfl rfl fun b36 _ e36 K => ?_
  cases b36
  · replace e36 := of_decide_eq_false e36
    refine dgn rfl K rfl rfl rfl rfl fun _ _ K => dgn rfl K rfl rfl rfl rfl fun _ _ K => d1 rfl K (os_pick rfl rfl rfl) rfl rfl fun _ K => d1 rfl K (os_move rfl) rfl rfl fun _ K => dgn rfl K rfl rfl rfl rfl fun _ _ K => dgn rfl K rfl rfl rfl rfl fun _ _ K => dgn rfl K rfl rfl rfl rfl fun _ _ K => dgn rfl K rfl rfl rfl rfl fun _ _ K => dgn rfl K rfl rfl rfl rfl fun _ _ K => ?_
    refine dgn rfl K rfl rfl rfl rfl fun _ _ K => d1 rfl K (os_pick rfl rfl rfl) rfl rfl fun _ K => d1 rfl K (os_move rfl) rfl rfl fun _ K => dgn rfl K rfl rfl rfl rfl fun _ _ K => d1 rfl K (os_pick rfl rfl rfl) rfl rfl fun _ K => d1 rfl K (os_assign rfl) rfl rfl fun _ K => wd_nil ?_
    show W _ _ _ _ _ _ _
    refine w_ret ?_
    refine ⟨.inr rfl, _, (res_one (rs_tmp K rfl)), ?_⟩
    first
     | rfl
     | (exfalso; omega)
     | (exfalso; simp_all; done)
  replace e36 := of_decide_eq_true e36
  refine dg rfl K rfl rfl (os_move rfl) rfl rfl fun _ K => dg rfl K rfl rfl (os_nePN un_P_auto_DFA rfl rfl) rfl rfl fun _ K => d1 rfl K (os_pick rfl rfl rfl) rfl rfl fun _ K => d1 rfl K (os_move rfl) rfl rfl fun _ K => dg rfl K rfl rfl (os_move rfl) rfl rfl fun _ K => ?_
  replace B := B.step M
  obtain ⟨v42, st42, ev42, nau42, q42⟩ := dTo_i B.fresh (B.dfa (k := 0) rfl)
  refine dga rfl K rfl rfl (os_call rfl ev42) rfl rfl fun _ K => ?_
  obtain ⟨kax, knx, vsx, Ax, Fx, rfl, hAx, B⟩ := B.newAu q42 nau42
  replace B := B.cast (M' := ((c2, 0, [.int .i64 (((tn : Nat) : Int)), ka, kn]) :: (Ax ++ []))) (by first | (simp only [List.append_assoc, List.cons_append, List.nil_append, List.append_nil, List.set_cons_zero, List.set_cons_succ]; done) | (simp only [List.append_assoc, List.cons_append, List.nil_append, List.append_nil, List.set_cons_zero, List.set_cons_succ]; rfl))
  have M := B.mem
  have Mp := Mq
  have Mq := M
  refine wd_gload1 rfl K rfl rfl rfl (M.load (k := 0) rfl (part_agg tk_api_Auto rfl)) (Mp.load (k := 0) rfl (part_agg tk_api_Auto rfl)) (eqV_agg (by simp [eqOk_str, eqOk_int, eqOk_bool, eqOk_len (hA.len.trans (congrArg some (bC_len _))), eqOk_len hN.len])) rfl (by decide) fun _ K => ?_
  refine dg rfl K rfl rfl (os_move rfl) rfl rfl fun _ K => ?_
  obtain ⟨v45, st45, ev45, kr2, acc2, rfl, hca2, nr45, q45⟩ := rClose_ev (a := ⟨tn, acc, nx⟩) M.fresh wf ((B.step M).rd0 hf hA) (hN.old hf fun c hc => (B.step M).old c hc id) hkt
  refine dga rfl K rfl rfl (os_call rfl ev45) rfl rfl fun _ K => ?_
  obtain ⟨Ar, hAr, M⟩ := M.callAcc q45 nr45
  replace M := Mem.cast (M' := ((c2, 0, [.int .i64 (((tn : Nat) : Int)), ka, kn]) :: (Ax ++ (Ar ++ [])))) M (by first | (simp only [List.append_assoc, List.cons_append, List.nil_append, List.append_nil, List.set_cons_zero, List.set_cons_succ]; done) | (simp only [List.append_assoc, List.cons_append, List.nil_append, List.append_nil, List.set_cons_zero, List.set_cons_succ]; rfl))
  have Mp := Mq
  have Mq := M
  obtain rfl := hca1.uniq hca2
  obtain ⟨v46, st46, ev46, rfl, q46⟩ := r19Same_ev (acc := acc1) M.fresh (Mem.accR (L := [(c2, 0, [.int .i64 (((tn : Nat) : Int)), ka, kn])]) (A := Ax) (B := (Ar ++ [])) M hAx) ((B.step M).at_ (k := 0) rfl).r (Mem.accR (L := ((c2, 0, [.int .i64 (((tn : Nat) : Int)), ka, kn]) :: (Ax ++ []))) (A := Ar) (B := []) (Mem.cast (M := ((c2, 0, [.int .i64 (((tn : Nat) : Int)), ka, kn]) :: (Ax ++ (Ar ++ [])))) (M' := ((c2, 0, [.int .i64 (((tn : Nat) : Int)), ka, kn]) :: (Ax ++ [])) ++ (Ar ++ [])) M (by first | (simp only [List.append_assoc, List.cons_append, List.nil_append, List.append_nil, List.set_cons_zero, List.set_cons_succ]; done) | (simp only [List.append_assoc, List.cons_append, List.nil_append, List.append_nil, List.set_cons_zero, List.set_cons_succ]; rfl))) hAr) (hN.old hf fun c hc => (B.step M).old c hc id)
  refine dga rfl K rfl rfl (os_call rfl ev46) rfl rfl fun _ K => ?_
  replace M := M.quiet q46
  have Mp := Mq
  have Mq := M
  refine d1 rfl K (os_pick rfl rfl rfl) rfl rfl fun _ K => d1 rfl K (os_move rfl) rfl rfl fun _ K => ?_
  have ev49 := known22_ev
  refine dga rfl K rfl rfl (os_call rfl (ev49 _)) rfl rfl fun _ K => ?_
  have Mp := Mq
  have Mq := M
  refine d1 rfl K (os_pick rfl rfl rfl) rfl rfl fun _ K => d1 rfl K (os_assign rfl) rfl rfl fun _ K => wd_nil ?_
  show W _ _ _ _ _ _ _
  refine w_ret ?_
  refine ⟨.inr rfl, _, (res_one (rs_tmp K rfl)), ?_⟩
  first
   | rfl
   | (exfalso; omega)
   | (exfalso; simp_all; done)
 replace e19 := of_decide_eq_true e19
 exfalso; omega
end Go.Proofs.YtiknomepbklibaaDoor
