/-
  FreeNames: any formula's free names.
-/
import Derived.Test.YtmjnbdkjekdkgaaDoorFnFrL
namespace Go.Proofs.YtmjnbdkjekdkgaaDoor
open Go Go.RowKit
set_option linter.unusedVariables false
set_option linter.unusedSimpArgs false
set_option linter.unnecessarySimpa false
set_option maxRecDepth 100000
set_option maxHeartbeats 1000000

theorem freeNames_ev {o s : List Nat} {z a : Int} {l : List Nd} {st : St} {cs : List AV} (hf : Fresh st) (hr : RdN st.h.get (.mk o s z a l) cs) : ∃ v st', Ev Tryd.prog envD 5 [.agg cs] st v st' ∧ v = .bool true := by
 have hr0 := hr
 obtain ⟨kk, ls, rfl, hK, hb⟩ := hr.open5
 have hln := hK.ln
 have hbn := hK.bnd
 refine ev_fn rfl Tryd.func5 rfl Tryd.ntmps5 rfl (by decide) (by simp) fun T hT => ?_
 have K : KnT [(0, _)] T := (.cons (hT 0) .nil)
 have M := Mem.start hf
 refine w_seq ?_
 refine w_region ?_
 refine wr_box K M rfl (cl_cons rfl (cl_cons rfl (cl_cons rfl (cl_cons rfl (cl_cons hK.cell cl_nil))))) (by decide) fun c1 _ _ K M => ?_
 refine o1 K (os_assign rfl) rfl fun _ K => ?_
 refine wr_nil ?_
 show W _ _ _ _ _ _ _
 refine w_seq ?_
 refine w_seq ?_
 refine w_region ?_
 refine o1 K (os_load rfl (M.load (k := 0) rfl (part_agg tk_api_Node rfl))) rfl fun _ K => ?_
 obtain ⟨v4, st4, ev4, rfl, q4⟩ := rSize_ev M.fresh (hr0.mono M.rows)
 refine o1 K (os_call rfl ev4) rfl fun _ K => ?_
 replace M := M.quiet q4
 refine o1 K (os_gtr rfl rfl) rfl fun _ K => ?_
 refine oB K (os_move rfl) rfl fun b6 _ e6 K => ?_
 cases b6
 · replace e6 := of_decide_eq_false e6
   refine og K rfl rfl (os_load rfl (M.load (k := 0) rfl (part_agg tk_api_Node rfl))) rfl fun _ K => ?_
   obtain ⟨v8, st8, ev8, rfl, q8⟩ := rIsFormula_ev M.fresh (hr0.mono M.rows)
   refine og K rfl rfl (os_call rfl ev8) rfl fun _ K => ?_
   replace M := M.quiet q8
   refine og K rfl rfl (os_not rfl) rfl fun _ K => ?_
   refine o1 K (os_pick rfl rfl rfl) rfl fun _ K => ?_
   refine wr_nil ?_
   show W _ _ _ _ _ _ _
   refine w_cond (K.opd rfl) (fun h10 => ?_) (fun h10 => ?_)
   · have hb10 := h10
     replace h10 : (smallB (.mk o s z a l) 2000 && formN (.mk o s z a l)) = false := by first | simpa using h10 | (revert h10; cases (smallB (.mk o s z a l) 2000 && formN (.mk o s z a l)) <;> simp)
     refine w_seq ?_
     refine w_region ?_
     refine o1 K (os_assign rfl) rfl fun _ K => ?_
     refine wr_nil ?_
     show W _ _ _ _ _ _ _
     refine w_ret ?_
     refine ⟨.inr rfl, _, (res_one (rs_tmp K rfl)), ?_⟩
     first
      | rfl
      | (simp_all; done)
      | (have hfm : formN (.mk o s z a l) = true := by first | (simp_all; done) | assumption
         have hEq := refN_free (formN_bare _ hfm) (RdN.names hr0 [])
         simp_all; done)
   have hb10 := h10
   replace h10 : (smallB (.mk o s z a l) 2000 && formN (.mk o s z a l)) = true := by first | simpa using h10 | (revert h10; cases (smallB (.mk o s z a l) 2000 && formN (.mk o s z a l)) <;> simp)
   refine w_skip ?_
   show W _ _ _ _ _ _ _
   refine w_seq ?_
   refine w_drawI (l := [(0, 0), (1, 0), (2, 1), (3, 0), (4, 0), (5, 0), (6, 0), (7, 0), (8, 0)]) (by kernel_rfl) ?_
   refine d1 rfl K (os_load rfl (M.load (k := 0) rfl (part_agg tk_api_Node rfl))) rfl rfl fun _ K => ?_
   have hz12 : szN (.mk o s z a l) ≤ 200 := by omega
   obtain ⟨v12, st12, ev12, ⟨ks12, rfl, hR12⟩, q12⟩ := tNames_ev M.fresh (hr0.mono M.rows) (by omega)
   refine dA rfl K (os_call rfl ev12) rfl rfl fun _ K => ?_
   have Mp := M
   replace M := M.quiet q12
   refine wd_load1 rfl K rfl (M.load (k := 0) rfl (part_agg tk_api_Node rfl)) (Mp.load (k := 0) rfl (part_agg tk_api_Node rfl)) (eqV_agg (by simp [eqOk_str, eqOk_int, eqOk_bool, eqOk_len hK.len])) rfl (by decide) fun _ K => ?_
   obtain ⟨v14, st14, ev14, ks14, rfl, nr14, q14⟩ := rNames_ev _ _ _ M.fresh (hr0.mono M.rows) (by omega)
   refine dA rfl K (os_call rfl ev14) rfl rfl fun _ K => ?_
   have Mp := M
   have hR12 := RdR.chg M.fresh (q14.chg []) hR12 (by simp)
   obtain ⟨A14, hA14, M⟩ := M.callAcc q14 nr14
   have hR14 := Mem.accR (L := [(c1, 0, [.str o, .str s, .int .i64 z, .int .i64 a, kk])]) (A := A14) (B := []) M hA14
   obtain ⟨v15, st15, ev15, rfl, q15⟩ := sameTx_ev M.fresh hR12 hR14
   refine dA rfl K (os_call rfl ev15) rfl rfl fun _ K => ?_
   have Mp := M
   replace M := M.quiet q15
   refine dB rfl K (os_move rfl) rfl rfl fun b16 _ e16 K => ?_
   cases b16
   · refine dgn rfl K rfl rfl rfl rfl fun _ _ K => ?_
     refine d1 rfl K (os_pick rfl rfl rfl) rfl rfl fun _ K => ?_
     refine d1 rfl K (os_assign rfl) rfl rfl fun _ K => ?_
     refine wd_nil ?_
     show W _ _ _ _ _ _ _
     refine w_ret ?_
     refine ⟨.inr rfl, _, (res_one (rs_tmp K rfl)), ?_⟩
     first
      | rfl
      | (simp_all; done)
      | (have hfm : formN (.mk o s z a l) = true := by first | (simp_all; done) | assumption
         have hEq := refN_free (formN_bare _ hfm) (RdN.names hr0 [])
         simp_all; done)
   have ev17 := known7_ev
   refine dga rfl K rfl rfl (os_call rfl (ev17 _)) rfl rfl fun _ K => ?_
   have Mp := M
   refine d1 rfl K (os_pick rfl rfl rfl) rfl rfl fun _ K => ?_
   refine d1 rfl K (os_assign rfl) rfl rfl fun _ K => ?_
   refine wd_nil ?_
   show W _ _ _ _ _ _ _
   refine w_ret ?_
   refine ⟨.inr rfl, _, (res_one (rs_tmp K rfl)), ?_⟩
   first
    | rfl
    | (simp_all; done)
    | (have hfm : formN (.mk o s z a l) = true := by first | (simp_all; done) | assumption
       have hEq := refN_free (formN_bare _ hfm) (RdN.names hr0 [])
       simp_all; done)
 replace e6 := of_decide_eq_true e6
 refine gn K rfl rfl rfl rfl fun _ K => ?_
 refine gn K rfl rfl rfl rfl fun _ K => ?_
 refine gn K rfl rfl rfl rfl fun _ K => ?_
 refine o1 K (os_pick rfl rfl rfl) rfl fun _ K => ?_
 refine wr_nil ?_
 show W _ _ _ _ _ _ _
 refine w_cond (t := true) (K.opd rfl) (fun _ => ?_) (fun h => by cases h)
 refine w_seq ?_
 refine w_region ?_
 refine o1 K (os_assign rfl) rfl fun _ K => ?_
 refine wr_nil ?_
 show W _ _ _ _ _ _ _
 refine w_ret ?_
 refine ⟨.inr rfl, _, (res_one (rs_tmp K rfl)), ?_⟩
 first
  | rfl
  | (simp_all; done)
  | (have hfm : formN (.mk o s z a l) = true := by first | (simp_all; done) | assumption
     have hEq := refN_free (formN_bare _ hfm) (RdN.names hr0 [])
     simp_all; done)
end Go.Proofs.YtmjnbdkjekdkgaaDoor
