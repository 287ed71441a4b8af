/-
  LexSpaces where the way is none.
-/
import Derived.Test.YtcccnnfmhdogoaaDoorLxS
namespace Go.Proofs.YtcccnnfmhdogoaaDoor
open Go Go.RowKit
set_option linter.unusedVariables false
set_option linter.unusedSimpArgs false
set_option linter.unnecessarySimpa false
set_option maxRecDepth 100000

theorem lexSpaces_evR {st : St} (hf : Fresh st) (l : List Nat) (hl : l.length ≤ 140737488351232) (w : Int) (hw : w < 0 ∨ 3 < w) : ∃ v st', Ev Tryd.prog envD 6 [.str l, .int .i64 w] st v st' ∧ v = .bool true := by
 refine ev_fn rfl Tryd.func6 rfl Tryd.ntmps6 rfl (by decide) (by simp) fun T hT => ?_
 have K : KnT [(0, _), (1, _)] T := (.cons (hT 0) (.cons (hT 1) .nil))
 have M := Mem.start hf
 refine w_seq ?_
 refine w_region ?_
 refine o1 K (os_assign rfl) rfl fun _ K => ?_
 refine wr_nil ?_
 show W _ _ _ _ _ _ _
 refine w_seq ?_
 refine w_seq ?_
 refine w_region ?_
 refine o1 K (os_move rfl) rfl fun _ K => ?_
 refine o1 K (os_lenS un_string rfl rfl) rfl fun _ K => ?_
 refine o1 K (os_gtr rfl rfl) rfl fun _ K => ?_
 refine oB K (os_move rfl) rfl fun b16 _ e16 K => ?_
 cases b16
 · replace e16 := of_decide_eq_false e16
   refine og K rfl rfl (os_move rfl) rfl fun _ K => ?_
   refine og K rfl rfl (os_lss rfl rfl) rfl fun _ K => ?_
   refine o1 K (os_pick rfl rfl rfl) rfl fun _ K => ?_
   refine oB K (os_move rfl) rfl fun b20 _ e20 K => ?_
   cases b20
   · replace e20 := of_decide_eq_false e20
     refine og K rfl rfl (os_move rfl) rfl fun _ K => ?_
     refine og K rfl rfl (os_gtr rfl rfl) rfl fun _ K => ?_
     refine o1 K (os_pick rfl rfl rfl) rfl fun _ K => ?_
     refine wr_nil ?_
     show W _ _ _ _ _ _ _
     refine w_cond (K.opd rfl) (fun h23 => ?_) (fun h23 => ?_)
     · have hb23 := h23
       replace h23 := of_decide_eq_true h23
       refine w_seq ?_
       refine w_region ?_
       refine o1 K (os_assign rfl) rfl fun _ K => ?_
       refine wr_nil ?_
       show W _ _ _ _ _ _ _
       refine w_ret ?_
       refine ⟨.inr rfl, _, (res_one (rs_tmp K rfl)), ?_⟩
       rfl
     have hb23 := h23
     replace h23 := of_decide_eq_false h23
     refine w_skip ?_
     show W _ _ _ _ _ _ _
     refine w_seq ?_
     exfalso; omega
   replace e20 := of_decide_eq_true e20
   refine gn K rfl rfl rfl rfl fun _ K => ?_
   refine gn K rfl rfl rfl rfl fun _ K => ?_
   refine o1 K (os_pick rfl rfl rfl) rfl fun _ K => ?_
   refine wr_nil ?_
   show W _ _ _ _ _ _ _
   refine w_cond (t := true) (K.opd rfl) (fun _ => ?_) (fun h => by cases h)
   refine w_seq ?_
   refine w_region ?_
   refine o1 K (os_assign rfl) rfl fun _ K => ?_
   refine wr_nil ?_
   show W _ _ _ _ _ _ _
   refine w_ret ?_
   refine ⟨.inr rfl, _, (res_one (rs_tmp K rfl)), ?_⟩
   rfl
 replace e16 := of_decide_eq_true e16
 refine gn K rfl rfl rfl rfl fun _ K => ?_
 refine gn K rfl rfl rfl rfl fun _ K => ?_
 refine o1 K (os_pick rfl rfl rfl) rfl fun _ K => ?_
 refine o1 K (os_move rfl) rfl fun _ K => ?_
 refine gn K rfl rfl rfl rfl fun _ K => ?_
 refine gn K rfl rfl rfl rfl fun _ K => ?_
 refine o1 K (os_pick rfl rfl rfl) rfl fun _ K => ?_
 refine wr_nil ?_
 show W _ _ _ _ _ _ _
 refine w_cond (t := true) (K.opd rfl) (fun _ => ?_) (fun h => by cases h)
 refine w_seq ?_
 refine w_region ?_
 refine o1 K (os_assign rfl) rfl fun _ K => ?_
 refine wr_nil ?_
 show W _ _ _ _ _ _ _
 refine w_ret ?_
 refine ⟨.inr rfl, _, (res_one (rs_tmp K rfl)), ?_⟩
 rfl
end Go.Proofs.YtcccnnfmhdogoaaDoor
