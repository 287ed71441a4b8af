/-
  A nil pool has nothing. PoolOfNothing.
-/
import Derived.Test.YtjjadifjcodjpaaDoorPsum
import Derived.Test.YtjjadifjcodjpaaDoorTyp
import Derived.Test.YtjjadifjcodjpaaDoorPtr
import Derived.Test.YtjjadifjcodjpaaDoorArr
namespace Go.Proofs.YtjjadifjcodjpaaDoor
open Go Go.RowKit
set_option linter.unusedVariables false
set_option linter.unusedSimpArgs false
set_option linter.unnecessarySimpa false
set_option maxRecDepth 100000


theorem ofNil_ev {st : St} (hf : Fresh st) (kl : AV) : ∃ v st', Ev Tryd.prog envP 9 [.nilp, kl] st v st' ∧ v = .int .i64 (-1) ∧ Qt st st' := by
 refine ev_fn rfl Tryd.func9 rfl Tryd.ntmps9 rfl (by decide) (by simp) fun T hT => ?_
 have K : KnT [(0, _), (1, _)] T := (.cons (hT 0) (.cons (hT 1) .nil))
 have M := Mem.start hf
 refine w_seq ?_
 refine w_region ?_
 refine o1 K (os_assign rfl) rfl fun _ K => ?_
 refine wr_nil ?_
 show W _ _ _ _ _ _ _
 refine w_seq ?_
 refine w_seq ?_
 refine w_region ?_
 refine o1 K (os_move rfl) rfl fun _ K => ?_
 refine o1 K (os_eqPP un_P_pool_Pool rfl rfl) rfl fun _ K => ?_
 refine wr_nil ?_
 show W _ _ _ _ _ _ _
 refine w_cond (t := true) (K.opd rfl) (fun _ => ?_) (fun h => by cases h)
 refine w_seq ?_
 refine w_region ?_
 refine o1 K (os_assign rfl) rfl fun _ K => ?_
 refine wr_nil ?_
 show W _ _ _ _ _ _ _
 refine w_ret ?_
 refine ⟨.inr rfl, _, (res_one (rs_tmp K rfl)), ?_⟩
 exact ⟨rfl, M.qt⟩

theorem lenNil_ev {st : St} (hf : Fresh st) : ∃ v st', Ev Tryd.prog envP 14 [.nilp] st v st' ∧ v = .int .i64 0 ∧ Qt st st' := by
 refine ev_fn rfl Tryd.func14 rfl Tryd.ntmps14 rfl (by decide) (by simp) fun T hT => ?_
 have K : KnT [(0, _)] T := (.cons (hT 0) .nil)
 have M := Mem.start hf
 refine w_seq ?_
 refine w_region ?_
 refine o1 K (os_assign rfl) rfl fun _ K => ?_
 refine wr_nil ?_
 show W _ _ _ _ _ _ _
 refine w_seq ?_
 refine w_seq ?_
 refine w_region ?_
 refine o1 K (os_move rfl) rfl fun _ K => ?_
 refine o1 K (os_eqPP un_P_pool_Pool rfl rfl) rfl fun _ K => ?_
 refine wr_nil ?_
 show W _ _ _ _ _ _ _
 refine w_cond (t := true) (K.opd rfl) (fun _ => ?_) (fun h => by cases h)
 refine w_seq ?_
 refine w_region ?_
 refine o1 K (os_assign rfl) rfl fun _ K => ?_
 refine wr_nil ?_
 show W _ _ _ _ _ _ _
 refine w_ret ?_
 refine ⟨.inr rfl, _, (res_one (rs_tmp K rfl)), ?_⟩
 exact ⟨rfl, M.qt⟩

theorem getNil_ev {st : St} (hf : Fresh st) (i : Int) : ∃ v st', Ev Tryd.prog envP 15 [.nilp, .int .i64 i] st v st' ∧ v = .nils ∧ Qt st st' := by
 refine ev_fn rfl Tryd.func15 rfl Tryd.ntmps15 rfl (by decide) (by simp) fun T hT => ?_
 have K : KnT [(0, _), (1, _)] T := (.cons (hT 0) (.cons (hT 1) .nil))
 have M := Mem.start hf
 refine w_seq ?_
 refine w_region ?_
 refine o1 K (os_assign rfl) rfl fun _ K => ?_
 refine wr_nil ?_
 show W _ _ _ _ _ _ _
 refine w_seq ?_
 refine w_seq ?_
 refine w_region ?_
 refine o1 K (os_move rfl) rfl fun _ K => ?_
 refine o1 K (os_lss rfl rfl) rfl fun _ K => ?_
 refine oB K (os_move rfl) rfl fun b7 _ e7 K => ?_
 cases b7
 · replace e7 := of_decide_eq_false e7
   refine og K rfl rfl (os_move rfl) rfl fun _ K => ?_
   refine og K rfl rfl (os_move rfl) rfl fun _ K => ?_
   obtain ⟨v10, st10, ev10, rfl, q10⟩ := lenNil_ev M.fresh
   refine og K rfl rfl (os_call rfl ev10) rfl fun _ K => ?_
   replace M := M.quiet q10
   refine og K rfl rfl (os_geq rfl rfl) rfl fun _ K => ?_
   refine o1 K (os_pick rfl rfl rfl) rfl fun _ K => ?_
   refine wr_nil ?_
   show W _ _ _ _ _ _ _
   refine w_cond (K.opd rfl) (fun h12 => ?_) (fun h12 => ?_)
   · have hb12 := h12
     replace h12 := of_decide_eq_true h12
     refine w_seq ?_
     refine w_region ?_
     refine o1 K (os_assign rfl) rfl fun _ K => ?_
     refine wr_nil ?_
     show W _ _ _ _ _ _ _
     refine w_ret ?_
     refine ⟨.inr rfl, _, (res_one (rs_tmp K rfl)), ?_⟩
     exact ⟨rfl, M.qt⟩
   have hb12 := h12
   replace h12 := of_decide_eq_false h12
   refine w_skip ?_
   show W _ _ _ _ _ _ _
   refine w_seq ?_
   exfalso; omega
 replace e7 := of_decide_eq_true e7
 refine gn K rfl rfl rfl rfl fun _ K => ?_
 refine gn K rfl rfl rfl rfl fun _ K => ?_
 refine gn K rfl rfl rfl rfl fun _ K => ?_
 refine gn K rfl rfl rfl rfl fun _ K => ?_
 refine o1 K (os_pick rfl rfl rfl) rfl fun _ K => ?_
 refine wr_nil ?_
 show W _ _ _ _ _ _ _
 refine w_cond (t := true) (K.opd rfl) (fun _ => ?_) (fun h => by cases h)
 refine w_seq ?_
 refine w_region ?_
 refine o1 K (os_assign rfl) rfl fun _ K => ?_
 refine wr_nil ?_
 show W _ _ _ _ _ _ _
 refine w_ret ?_
 refine ⟨.inr rfl, _, (res_one (rs_tmp K rfl)), ?_⟩
 exact ⟨rfl, M.qt⟩

theorem poolOfNothing_ev {st : St} (hf : Fresh st) {kl : AV} {n : Nat} (hl : slLen kl = some n) (i : Int) : ∃ v st', Ev Tryd.prog envP 6 [kl, .int .i64 i] st v st' ∧ v = .bool true := by
 refine ev_fn rfl Tryd.func6 rfl Tryd.ntmps6 rfl (by decide) (by simp) fun T hT => ?_
 have K : KnT [(0, _), (1, _)] T := (.cons (hT 0) (.cons (hT 1) .nil))
 have M := Mem.start hf
 refine w_seq ?_
 refine w_region ?_
 refine o1 K (os_assign rfl) rfl fun _ K => ?_
 refine wr_nil ?_
 show W _ _ _ _ _ _ _
 refine w_seq ?_
 refine w_seq ?_
 refine w_region ?_
 refine o1 K (os_move rfl) rfl fun _ K => ?_
 refine o1 K (os_lenL un_S_int rfl rfl hl) rfl fun _ K => ?_
 refine o1 K (os_gtr rfl rfl) rfl fun _ K => ?_
 refine wr_nil ?_
 show W _ _ _ _ _ _ _
 refine w_cond (K.opd rfl) (fun h8 => ?_) (fun h8 => ?_)
 · have hb8 := h8
   replace h8 := of_decide_eq_true h8
   refine w_seq ?_
   refine w_region ?_
   refine o1 K (os_assign rfl) rfl fun _ K => ?_
   refine wr_nil ?_
   show W _ _ _ _ _ _ _
   refine w_ret ?_
   refine ⟨.inr rfl, _, (res_one (rs_tmp K rfl)), ?_⟩
   first
    | rfl
    | (exfalso; simp_all; done)
 have hb8 := h8
 replace h8 := of_decide_eq_false h8
 refine w_skip ?_
 show W _ _ _ _ _ _ _
 refine w_seq ?_
 refine w_region ?_
 refine o1 K (os_assign rfl) rfl fun _ K => ?_
 refine wr_nil ?_
 show W _ _ _ _ _ _ _
 refine w_seq ?_
 refine w_region ?_
 refine o1 K (os_move rfl) rfl fun _ K => ?_
 refine o1 K (os_move rfl) rfl fun _ K => ?_
 obtain ⟨v11, st11, ev11, rfl, q11⟩ := ofNil_ev M.fresh _
 refine o1 K (os_call rfl ev11) rfl fun _ K => ?_
 replace M := M.quiet q11
 refine o1 K (os_eqI rfl rfl) rfl fun _ K => ?_
 refine oB K (os_move rfl) rfl fun b13 _ e13 K => ?_
 cases b13
 · replace e13 := of_decide_eq_false e13
   refine gn K rfl rfl rfl rfl fun _ K => ?_
   refine gn K rfl rfl rfl rfl fun _ K => ?_
   refine gn K rfl rfl rfl rfl fun _ K => ?_
   refine gn K rfl rfl rfl rfl fun _ K => ?_
   refine gn K rfl rfl rfl rfl fun _ K => ?_
   refine o1 K (os_pick rfl rfl rfl) rfl fun _ K => ?_
   refine o1 K (os_move rfl) rfl fun _ K => ?_
   refine gn K rfl rfl rfl rfl fun _ K => ?_
   refine gn K rfl rfl rfl rfl fun _ K => ?_
   refine gn K rfl rfl rfl rfl fun _ K => ?_
   refine o1 K (os_pick rfl rfl rfl) rfl fun _ K => ?_
   refine o1 K (os_move rfl) rfl fun _ K => ?_
   refine gn K rfl rfl rfl rfl fun _ K => ?_
   refine o1 K (os_pick rfl rfl rfl) rfl fun _ K => ?_
   refine o1 K (os_assign rfl) rfl fun _ K => ?_
   refine wr_nil ?_
   show W _ _ _ _ _ _ _
   refine w_ret ?_
   refine ⟨.inr rfl, _, (res_one (rs_tmp K rfl)), ?_⟩
   first
    | rfl
    | (exfalso; simp_all; done)
 replace e13 := of_decide_eq_true e13
 refine og K rfl rfl (os_move rfl) rfl fun _ K => ?_
 refine og K rfl rfl (os_move rfl) rfl fun _ K => ?_
 obtain ⟨v16, st16, ev16, rfl, q16⟩ := getNil_ev M.fresh _
 refine og K rfl rfl (os_call rfl ev16) rfl fun _ K => ?_
 replace M := M.quiet q16
 refine og K rfl rfl (os_lenL un_S_int rfl rfl rfl) rfl fun _ K => ?_
 refine og K rfl rfl (os_eqI rfl rfl) rfl fun _ K => ?_
 refine o1 K (os_pick rfl rfl rfl) rfl fun _ K => ?_
 refine oB K (os_move rfl) rfl fun b20 _ e20 K => ?_
 cases b20
 · replace e20 := of_decide_eq_false e20
   refine gn K rfl rfl rfl rfl fun _ K => ?_
   refine gn K rfl rfl rfl rfl fun _ K => ?_
   refine gn K rfl rfl rfl rfl fun _ K => ?_
   refine o1 K (os_pick rfl rfl rfl) rfl fun _ K => ?_
   refine o1 K (os_move rfl) rfl fun _ K => ?_
   refine gn K rfl rfl rfl rfl fun _ K => ?_
   refine o1 K (os_pick rfl rfl rfl) rfl fun _ K => ?_
   refine o1 K (os_assign rfl) rfl fun _ K => ?_
   refine wr_nil ?_
   show W _ _ _ _ _ _ _
   refine w_ret ?_
   refine ⟨.inr rfl, _, (res_one (rs_tmp K rfl)), ?_⟩
   first
    | rfl
    | (exfalso; simp_all; done)
 replace e20 := of_decide_eq_true e20
 refine og K rfl rfl (os_move rfl) rfl fun _ K => ?_
 obtain ⟨v22, st22, ev22, rfl, q22⟩ := lenNil_ev M.fresh
 refine og K rfl rfl (os_call rfl ev22) rfl fun _ K => ?_
 replace M := M.quiet q22
 refine og K rfl rfl (os_eqI rfl rfl) rfl fun _ K => ?_
 refine o1 K (os_pick rfl rfl rfl) rfl fun _ K => ?_
 refine oB K (os_move rfl) rfl fun b25 _ e25 K => ?_
 cases b25
 · replace e25 := of_decide_eq_false e25
   refine gn K rfl rfl rfl rfl fun _ K => ?_
   refine o1 K (os_pick rfl rfl rfl) rfl fun _ K => ?_
   refine o1 K (os_assign rfl) rfl fun _ K => ?_
   refine wr_nil ?_
   show W _ _ _ _ _ _ _
   refine w_ret ?_
   refine ⟨.inr rfl, _, (res_one (rs_tmp K rfl)), ?_⟩
   first
    | rfl
    | (exfalso; simp_all; done)
 replace e25 := of_decide_eq_true e25
 have ev26 := known15_ev
 refine og K rfl rfl (os_call rfl (ev26 _)) rfl fun _ K => ?_
 refine o1 K (os_pick rfl rfl rfl) rfl fun _ K => ?_
 refine o1 K (os_assign rfl) rfl fun _ K => ?_
 refine wr_nil ?_
 show W _ _ _ _ _ _ _
 refine w_ret ?_
 refine ⟨.inr rfl, _, (res_one (rs_tmp K rfl)), ?_⟩
 first
  | rfl
  | (exfalso; simp_all; done)
end Go.Proofs.YtjjadifjcodjpaaDoor
