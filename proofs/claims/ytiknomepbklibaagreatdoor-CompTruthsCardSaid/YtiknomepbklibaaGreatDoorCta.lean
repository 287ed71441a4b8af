/-
  CompTruths beyond its range.
-/
import Derived.Test.YtiknomepbklibaaGreatDoorPsq
import Derived.Test.YtiknomepbklibaaGreatDoorTyc
import Derived.Test.YtiknomepbklibaaGreatDoorFill
namespace Go.Proofs.YtiknomepbklibaaGreatDoor
open Go Go.RowKit
set_option linter.unusedVariables false
set_option linter.unusedSimpArgs false
set_option linter.unnecessarySimpa false
set_option maxRecDepth 100000
set_option maxHeartbeats 1000000


theorem not26_ev {st : St} (hf : Fresh st) {ov : List Nat} {av bv cv nv : Int} {kkv : AV} {m1 : Nat} (hcv : isCell kkv = true) (hlv : slLen kkv = some m1) : ∃ v st', Ev Tryz.prog envQ 23 [.agg [.str ov, .int .i64 av, .int .i64 bv, .int .i64 cv, .int .i64 nv, kkv]] st v st' ∧ ∃ kk, v = .agg [.str [110, 111, 116], .int .i64 0, .int .i64 0, .int .i64 0, .int .i64 0, kk] ∧ isCell kk = true ∧ slLen kk = some 1 ∧ Qt st st' := by
 refine ev_fn rfl Tryz.func23 rfl Tryz.ntmps23 rfl (by decide) (by simp) fun T hT => ?_
 have K : KnT [(0, _)] T := (.cons (hT 0) .nil)
 have M := Mem.start hf
 refine w_seq ?_
 refine w_region ?_
 refine wr_box K M rfl (cl_cons rfl (cl_cons rfl (cl_cons rfl (cl_cons rfl (cl_cons rfl (cl_cons hcv cl_nil)))))) (by decide) fun c1 _ _ K M => ?_
 refine wr_alloc K M ze_api_Core (by decide) fun c2 _ _ K M => ?_
 refine wr_nil ?_
 show W _ _ _ _ _ _ _
 refine w_seq ?_
 refine w_region ?_
 refine o1 K (os_load rfl (M.load (k := 1) rfl (part_agg tk_api_Core rfl))) rfl fun _ K => ?_
 refine wr_bs K M sl_S_api_Core ze_api_Core rfl rfl (cl_cons rfl (cl_cons rfl (cl_cons rfl (cl_cons rfl (cl_cons rfl (cl_cons hcv cl_nil)))))) rfl rfl fun c4 _ _ K M => ?_
 refine o1 K (os_build st_api_Core rfl rfl) rfl fun _ K => ?_
 refine wr_store (k := 1) K M rfl rfl rfl sz_api_Core rfl rfl rfl fun _ M => ?_
 refine wr_nil ?_
 show W _ _ _ _ _ _ _
 refine w_ret ?_
 refine ⟨.inr rfl, _, (res_one (rs_cell K rfl (M.load (k := 1) rfl (part_agg tk_api_Core rfl)))), ?_⟩
 exact ⟨_, rfl, rfl, rfl, M.qt⟩

theorem and26_ev {st : St} (hf : Fresh st) {ov : List Nat} {av bv cv nv : Int} {kkv : AV} {m1 : Nat} (hcv : isCell kkv = true) (hlv : slLen kkv = some m1) {ow : List Nat} {aw bw cw nw : Int} {kkw : AV} {m2 : Nat} (hcw : isCell kkw = true) (hlw : slLen kkw = some m2) : ∃ v st', Ev Tryz.prog envQ 24 [.agg [.str ov, .int .i64 av, .int .i64 bv, .int .i64 cv, .int .i64 nv, kkv], .agg [.str ow, .int .i64 aw, .int .i64 bw, .int .i64 cw, .int .i64 nw, kkw]] st v st' ∧ ∃ kk, v = .agg [.str [97, 110, 100], .int .i64 0, .int .i64 0, .int .i64 0, .int .i64 0, kk] ∧ isCell kk = true ∧ slLen kk = some 2 ∧ Qt st st' := by
 refine ev_fn rfl Tryz.func24 rfl Tryz.ntmps24 rfl (by decide) (by simp) fun T hT => ?_
 have K : KnT [(0, _), (1, _)] T := (.cons (hT 0) (.cons (hT 1) .nil))
 have M := Mem.start hf
 refine w_seq ?_
 refine w_region ?_
 refine wr_box K M rfl (cl_cons rfl (cl_cons rfl (cl_cons rfl (cl_cons rfl (cl_cons rfl (cl_cons hcv cl_nil)))))) (by decide) fun c2 _ _ K M => ?_
 refine wr_box K M rfl (cl_cons rfl (cl_cons rfl (cl_cons rfl (cl_cons rfl (cl_cons rfl (cl_cons hcw cl_nil)))))) (by decide) fun c3 _ _ K M => ?_
 refine wr_alloc K M ze_api_Core (by decide) fun c4 _ _ K M => ?_
 refine wr_nil ?_
 show W _ _ _ _ _ _ _
 refine w_seq ?_
 refine w_region ?_
 refine o1 K (os_load rfl (M.load (k := 2) rfl (part_agg tk_api_Core rfl))) rfl fun _ K => ?_
 refine o1 K (os_load rfl (M.load (k := 1) rfl (part_agg tk_api_Core rfl))) rfl fun _ K => ?_
 refine wr_bs K M sl_S_api_Core ze_api_Core rfl rfl (cl_cons rfl (cl_cons rfl (cl_cons rfl (cl_cons rfl (cl_cons rfl (cl_cons hcv (cl_cons rfl (cl_cons rfl (cl_cons rfl (cl_cons rfl (cl_cons rfl (cl_cons hcw cl_nil)))))))))))) rfl rfl fun c7 _ _ K M => ?_
 refine o1 K (os_build st_api_Core rfl rfl) rfl fun _ K => ?_
 refine wr_store (k := 1) K M rfl rfl rfl sz_api_Core rfl rfl rfl fun _ M => ?_
 refine wr_nil ?_
 show W _ _ _ _ _ _ _
 refine w_ret ?_
 refine ⟨.inr rfl, _, (res_one (rs_cell K rfl (M.load (k := 1) rfl (part_agg tk_api_Core rfl)))), ?_⟩
 exact ⟨_, rfl, rfl, rfl, M.qt⟩

theorem compTruths_off {st : St} (hf : Fresh st) (way : Int) (hw : way < 0 ∨ 4 ≤ way) : ∃ v st', Ev Tryz.prog envQ 5 [.int .i64 way] st v st' ∧ v = .bool true := by
 refine ev_fn rfl Tryz.func5 rfl Tryz.ntmps5 rfl (by decide) (by simp) fun T hT => ?_
 have K : KnT [(0, _)] T := (.cons (hT 0) .nil)
 have M := Mem.start hf
 refine w_seq ?_
 refine w_region ?_
 refine o1 K (os_assign rfl) rfl fun _ K => ?_
 refine wr_nil ?_
 show W _ _ _ _ _ _ _
 refine w_seq ?_
 refine w_region ?_
 refine o1 K (os_build st_api_Core rfl rfl) rfl fun _ K => ?_
 refine wr_alloc K M ze_api_Core (by decide) fun c3 _ _ K M => ?_
 refine wr_store (k := 0) K M rfl rfl rfl sz_api_Core rfl rfl rfl fun _ M => ?_
 refine wr_nil ?_
 show W _ _ _ _ _ _ _
 refine w_seq ?_
 refine w_region ?_
 refine o1 K (os_build st_api_Core rfl rfl) rfl fun _ K => ?_
 refine wr_alloc K M ze_api_Core (by decide) fun c4 _ _ K M => ?_
 refine wr_store (k := 0) K M rfl rfl rfl sz_api_Core rfl rfl rfl fun _ M => ?_
 refine wr_nil ?_
 show W _ _ _ _ _ _ _
 refine w_seq ?_
 refine w_drawI (l := [(1, 0), (2, 0), (3, 0), (4, 0), (0, 1), (5, 0), (6, 0), (7, 0), (8, 0), (10, 0), (11, 0), (12, 0), (13, 0), (9, 4), (14, 0), (18, 0), (19, 0), (20, 0), (21, 0), (17, 6), (22, 0), (23, 0), (24, 0), (25, 0), (27, 0), (28, 0), (26, 0), (29, 0), (30, 0), (31, 0), (32, 0), (15, 0), (16, 0), (33, 0), (34, 0), (35, 0), (36, 0)]) (by kernel_rfl) ?_
 have Mq := M
 have Mz0 := M
 refine d1 rfl K (os_load rfl (M.load (k := 1) rfl (part_agg tk_api_Core rfl))) rfl rfl fun _ K => ?_
 refine wd_bs rfl K M sl_S_api_Core ze_api_Core rfl rfl rfl rfl rfl fun c13 _ _ K M => ?_
 refine d1 rfl K (os_build st_api_Core rfl rfl) rfl rfl fun _ K => ?_
 obtain ⟨v15, st15, ev15, kk15, rfl, hc15, hl15, q15⟩ := not26_ev (kkv := (.sl c13 0 0 1 6)) M.fresh rfl rfl
 refine dA rfl K (os_call rfl ev15) rfl rfl fun _ K => ?_
 replace M := M.quiet q15
 have Mp := Mq
 have Mq := M
 have Mz1 := M
 refine wd_load1 rfl K rfl (M.load (k := 1) rfl (part_agg tk_api_Core rfl)) (Mp.load (k := 0) rfl (part_agg tk_api_Core rfl)) (eqV_agg rfl) rfl (by decide) fun _ K => ?_
 obtain ⟨v16, st16, ev16, kk16, rfl, hc16, hl16, q16⟩ := and26_ev (kkv := .nils) (kkw := kk15) M.fresh rfl rfl hc15 hl15
 refine dA rfl K (os_call rfl ev16) rfl rfl fun _ K => ?_
 replace M := M.quiet q16
 have Mp := Mq
 have Mq := M
 have Mz2 := M
 refine wd_bs rfl K M sl_S_api_Core ze_api_Core rfl rfl (cl_cons rfl (cl_cons rfl (cl_cons rfl (cl_cons rfl (cl_cons rfl (cl_cons hc16 cl_nil)))))) rfl rfl fun c17 _ _ K M => ?_
 refine d1 rfl K (os_build st_api_Core rfl rfl) rfl rfl fun _ K => ?_
 obtain ⟨v19, st19, ev19, kk19, rfl, hc19, hl19, q19⟩ := not26_ev (kkv := (.sl c17 0 0 1 6)) M.fresh rfl rfl
 refine dA rfl K (os_call rfl ev19) rfl rfl fun _ K => ?_
 replace M := M.quiet q19
 have Mp := Mq
 have Mq := M
 have Mz3 := M
 refine d1 rfl K (os_build st_api_Core rfl rfl) rfl rfl fun _ K => ?_
 refine wd_bs rfl K M sl_S_api_Core ze_api_Core rfl rfl rfl rfl rfl fun c22 _ _ K M => ?_
 refine d1 rfl K (os_build st_api_Core rfl rfl) rfl rfl fun _ K => ?_
 obtain ⟨v24, st24, ev24, kk24, rfl, hc24, hl24, q24⟩ := not26_ev (kkv := (.sl c22 0 0 1 6)) M.fresh rfl rfl
 refine dA rfl K (os_call rfl ev24) rfl rfl fun _ K => ?_
 replace M := M.quiet q24
 have Mp := Mq
 have Mq := M
 have Mz4 := M
 refine wd_loadN rfl K rfl (M.load (k := 3) rfl (part_agg tk_api_Core rfl)) (by simp) (by intro s hs; simp only [List.take_succ_cons, List.take_zero, List.mem_cons, List.not_mem_nil, or_false] at hs; rcases hs with rfl | rfl | rfl | rfl <;> first | exact (Mz3.load (k := 2) rfl (part_agg tk_api_Core rfl)) | exact (Mz2.load (k := 1) rfl (part_agg tk_api_Core rfl)) | exact (Mz1.load (k := 1) rfl (part_agg tk_api_Core rfl)) | exact (Mz0.load (k := 0) rfl (part_agg tk_api_Core rfl))) (eqV_agg rfl) rfl (by decide) fun _ K => ?_
 obtain ⟨v25, st25, ev25, kk25, rfl, hc25, hl25, q25⟩ := and26_ev (kkv := .nils) (kkw := kk24) M.fresh rfl rfl hc24 hl24
 refine dA rfl K (os_call rfl ev25) rfl rfl fun _ K => ?_
 replace M := M.quiet q25
 have Mp := Mq
 have Mq := M
 have Mz5 := M
 refine d1 rfl K (os_build st_api_Core rfl rfl) rfl rfl fun _ K => ?_
 refine wd_bs rfl K M sl_S_api_Core ze_api_Core rfl rfl rfl rfl rfl fun c30 _ _ K M => ?_
 refine d1 rfl K (os_build st_api_Core rfl rfl) rfl rfl fun _ K => ?_
 obtain ⟨v32, st32, ev32, kk32, rfl, hc32, hl32, q32⟩ := not26_ev (kkv := (.sl c30 0 0 1 6)) M.fresh rfl rfl
 refine dA rfl K (os_call rfl ev32) rfl rfl fun _ K => ?_
 replace M := M.quiet q32
 have Mp := Mq
 have Mq := M
 have Mz6 := M
 refine wd_loadN rfl K rfl (M.load (k := 4) rfl (part_agg tk_api_Core rfl)) (by simp) (by intro s hs; simp only [List.take_succ_cons, List.take_zero, List.mem_cons, List.not_mem_nil, or_false] at hs; rcases hs with rfl | rfl | rfl | rfl | rfl | rfl <;> first | exact (Mz5.load (k := 3) rfl (part_agg tk_api_Core rfl)) | exact (Mz4.load (k := 3) rfl (part_agg tk_api_Core rfl)) | exact (Mz3.load (k := 2) rfl (part_agg tk_api_Core rfl)) | exact (Mz2.load (k := 1) rfl (part_agg tk_api_Core rfl)) | exact (Mz1.load (k := 1) rfl (part_agg tk_api_Core rfl)) | exact (Mz0.load (k := 0) rfl (part_agg tk_api_Core rfl))) (eqV_agg rfl) rfl (by decide) fun _ K => ?_
 obtain ⟨v33, st33, ev33, kk33, rfl, hc33, hl33, q33⟩ := and26_ev (kkv := .nils) (kkw := kk32) M.fresh rfl rfl hc32 hl32
 refine dA rfl K (os_call rfl ev33) rfl rfl fun _ K => ?_
 replace M := M.quiet q33
 have Mp := Mq
 have Mq := M
 have Mz7 := M
 refine wd_bs rfl K M sl_S_api_Core ze_api_Core rfl rfl (cl_cons rfl (cl_cons rfl (cl_cons rfl (cl_cons rfl (cl_cons rfl (cl_cons hc33 cl_nil)))))) rfl rfl fun c34 _ _ K M => ?_
 refine d1 rfl K (os_build st_api_Core rfl rfl) rfl rfl fun _ K => ?_
 obtain ⟨v36, st36, ev36, kk36, rfl, hc36, hl36, q36⟩ := not26_ev (kkv := (.sl c34 0 0 1 6)) M.fresh rfl rfl
 refine dA rfl K (os_call rfl ev36) rfl rfl fun _ K => ?_
 replace M := M.quiet q36
 have Mp := Mq
 have Mq := M
 have Mz8 := M
 refine d1 rfl K (os_build st_api_Core rfl rfl) rfl rfl fun _ K => ?_
 obtain ⟨v39, st39, ev39, kk39, rfl, hc39, hl39, q39⟩ := not26_ev (kkv := .nils) M.fresh rfl rfl
 refine dA rfl K (os_call rfl ev39) rfl rfl fun _ K => ?_
 replace M := M.quiet q39
 have Mp := Mq
 have Mq := M
 have Mz9 := M
 refine d1 rfl K (os_build st_api_Core rfl rfl) rfl rfl fun _ K => ?_
 obtain ⟨v40, st40, ev40, kk40, rfl, hc40, hl40, q40⟩ := and26_ev (kkv := .nils) (kkw := kk39) M.fresh rfl rfl hc39 hl39
 refine dA rfl K (os_call rfl ev40) rfl rfl fun _ K => ?_
 replace M := M.quiet q40
 have Mp := Mq
 have Mq := M
 have Mz10 := M
 refine wd_bs rfl K M sl_S_api_Core ze_api_Core rfl rfl (cl_cons rfl (cl_cons rfl (cl_cons rfl (cl_cons rfl (cl_cons rfl (cl_cons hc40 cl_nil)))))) rfl rfl fun c41 _ _ K M => ?_
 refine d1 rfl K (os_build st_api_Core rfl rfl) rfl rfl fun _ K => ?_
 obtain ⟨v43, st43, ev43, kk43, rfl, hc43, hl43, q43⟩ := not26_ev (kkv := (.sl c41 0 0 1 6)) M.fresh rfl rfl
 refine dA rfl K (os_call rfl ev43) rfl rfl fun _ K => ?_
 replace M := M.quiet q43
 have Mp := Mq
 have Mq := M
 have Mz11 := M
 refine wd_bs rfl K M sl_S_api_Core ze_api_Core rfl rfl (cl_cons rfl (cl_cons rfl (cl_cons rfl (cl_cons rfl (cl_cons rfl (cl_cons hc25 cl_nil)))))) rfl rfl fun c26 _ _ K M => ?_
 refine d1 rfl K (os_build st_api_Core rfl rfl) rfl rfl fun _ K => ?_
 refine wd_bs rfl K M sl_S_api_Core ze_api_Core rfl rfl (cl_cons rfl (cl_cons rfl (cl_cons rfl (cl_cons rfl (cl_cons rfl (cl_cons hc43 cl_nil)))))) rfl rfl fun c44 _ _ K M => ?_
 refine d1 rfl K (os_build st_api_Core rfl rfl) rfl rfl fun _ K => ?_
 refine wd_bs rfl K M sl_S_api_Core ze_api_Core rfl rfl (cl_cons rfl (cl_cons rfl (cl_cons rfl (cl_cons rfl (cl_cons rfl (cl_cons hc19 (cl_cons rfl (cl_cons rfl (cl_cons rfl (cl_cons rfl (cl_cons rfl (cl_cons rfl (cl_cons rfl (cl_cons rfl (cl_cons rfl (cl_cons rfl (cl_cons rfl (cl_cons hc36 (cl_cons rfl (cl_cons rfl (cl_cons rfl (cl_cons rfl (cl_cons rfl (cl_cons rfl cl_nil)))))))))))))))))))))))) rfl rfl fun c46 _ _ K M => ?_
 refine d1 rfl K (os_assign rfl) rfl rfl fun _ K => ?_
 refine wd_nil ?_
 show W _ _ _ _ _ _ _
 refine w_seq ?_
 refine w_region ?_
 refine wr_bs K M sl_S_bool ze_bool rfl rfl rfl rfl rfl fun c47 _ _ K M => ?_
 refine o1 K (os_assign rfl) rfl fun _ K => ?_
 refine wr_nil ?_
 show W _ _ _ _ _ _ _
 refine w_seq ?_
 refine w_seq ?_
 refine w_region ?_
 refine o1 K (os_move rfl) rfl fun _ K => ?_
 refine o1 K (os_lss rfl rfl) rfl fun _ K => ?_
 refine oB K (os_move rfl) rfl fun b50 _ e50 K => ?_
 cases b50
 · replace e50 := of_decide_eq_false e50
   refine og K rfl rfl (os_move rfl) rfl fun _ K => ?_
   refine og K rfl rfl (os_move rfl) rfl fun _ K => ?_
   refine og K rfl rfl (os_lenL un_S_api_Core rfl rfl rfl) rfl fun _ K => ?_
   refine og K rfl rfl (os_geq rfl rfl) rfl fun _ K => ?_
   refine o1 K (os_pick rfl rfl rfl) rfl fun _ K => ?_
   refine wr_nil ?_
   show W _ _ _ _ _ _ _
   refine w_cond (K.opd rfl) (fun h55 => ?_) (fun h55 => ?_)
   · have hb55 := h55
     replace h55 := of_decide_eq_true h55
     refine w_seq ?_
     refine w_region ?_
     refine o1 K (os_assign rfl) rfl fun _ K => ?_
     refine wr_nil ?_
     show W _ _ _ _ _ _ _
     refine w_ret ?_
     refine ⟨.inr rfl, _, (res_one (rs_tmp K rfl)), ?_⟩
     rfl
   have hb55 := h55
   replace h55 := of_decide_eq_false h55
   refine w_skip ?_
   show W _ _ _ _ _ _ _
   refine w_seq ?_
   exfalso; first | (simp_all; done) | omega
 replace e50 := of_decide_eq_true e50
 refine gn K rfl rfl rfl rfl fun _ K => ?_
 refine gn K rfl rfl rfl rfl fun _ K => ?_
 refine gn K rfl rfl rfl rfl fun _ K => ?_
 refine gn K rfl rfl rfl rfl fun _ K => ?_
 refine o1 K (os_pick rfl rfl rfl) rfl fun _ K => ?_
 refine wr_nil ?_
 show W _ _ _ _ _ _ _
 refine w_cond (t := true) (K.opd rfl) (fun _ => ?_) (fun h => by cases h)
 refine w_seq ?_
 refine w_region ?_
 refine o1 K (os_assign rfl) rfl fun _ K => ?_
 refine wr_nil ?_
 show W _ _ _ _ _ _ _
 refine w_ret ?_
 refine ⟨.inr rfl, _, (res_one (rs_tmp K rfl)), ?_⟩
 rfl
end Go.Proofs.YtiknomepbklibaaGreatDoor
