/-
  fine answers.
-/
import Derived.Test.YtmjnbdkjekdkgaaDpC
namespace Go.Proofs.Ytmjnbdkjekdkgaa
open Go Go.RowKit
set_option linter.unusedVariables false
set_option maxRecDepth 100000

section
variable {G : Env}
theorem Depth_ev (hs11 : G.s 11 = none) (hs23 : G.s 23 = none) {op name : List Nat} {n at_ : Int} {kids : List Nd} {st : St} {cs : List AV} (hf : Fresh st) (hr : RdN st.h.get (.mk op name n at_ kids) cs) : ∃ v st', Ev Try.prog G 11 [.agg cs] st v st' ∧ ∃ z : Int, v = .int .i64 z ∧ Qt st st' := by
  obtain ⟨kk, rfl, h0⟩ := hr.open_ tkN
  refine ev_fn hs11 Try.func11 rfl Try.ntmps11 rfl (by decide) (by simp) fun T hT => ?_
  have K : KnT [(0, _)] T := (.cons (hT 0) .nil)
  have M := Mem.start hf
  refine w_seq ?_
  refine w_region ?_
  refine wr_box K M rfl (cell5 h0.cell) (by decide) fun c1 _ _ K M => ?_
  refine wr_op K (os_assign rfl) (by decide) fun _ K => ?_
  refine wr_nil ?_
  show W _ _ _ _ _ _ _
  refine w_seq ?_
  refine w_region ?_
  refine wr_load (k := 0) K M rfl rfl (part_agg tkN rfl) (by decide) fun _ K => ?_
  obtain ⟨v4, st4, ev4, z4, rfl, _, _, q4⟩ := deep_ev hs23 _ 31 _ _ (by decide) (by decide) M.fresh (hr.mono M.rows)
  refine wr_op K (os_call rfl ev4) (by decide) fun _ K => ?_
  replace M := M.quiet q4
  refine wr_op K (os_assign rfl) (by decide) fun _ K => ?_
  refine wr_nil ?_
  show W _ _ _ _ _ _ _
  refine w_ret ?_
  refine ⟨.inr rfl, _, res_tmp K rfl, _, rfl, M.qt⟩
theorem Size_ev (hs12 : G.s 12 = none) (hs24 : G.s 24 = none) {op name : List Nat} {n at_ : Int} {kids : List Nd} {st : St} {cs : List AV} (hf : Fresh st) (hr : RdN st.h.get (.mk op name n at_ kids) cs) : ∃ v st', Ev Try.prog G 12 [.agg cs] st v st' ∧ ∃ z : Int, v = .int .i64 z ∧ Qt st st' := by
  obtain ⟨kk, rfl, h0⟩ := hr.open_ tkN
  refine ev_fn hs12 Try.func12 rfl Try.ntmps12 rfl (by decide) (by simp) fun T hT => ?_
  have K : KnT [(0, _)] T := (.cons (hT 0) .nil)
  have M := Mem.start hf
  refine w_seq ?_
  refine w_region ?_
  refine wr_box K M rfl (cell5 h0.cell) (by decide) fun c1 _ _ K M => ?_
  refine wr_op K (os_assign rfl) (by decide) fun _ K => ?_
  refine wr_nil ?_
  show W _ _ _ _ _ _ _
  refine w_seq ?_
  refine w_region ?_
  refine wr_load (k := 0) K M rfl rfl (part_agg tkN rfl) (by decide) fun _ K => ?_
  obtain ⟨v4, st4, ev4, z4, rfl, _, _, q4⟩ := count_ev hs24 _ 2001 _ _ (by decide) (by decide) M.fresh (hr.mono M.rows)
  refine wr_op K (os_call rfl ev4) (by decide) fun _ K => ?_
  replace M := M.quiet q4
  refine wr_op K (os_assign rfl) (by decide) fun _ K => ?_
  refine wr_nil ?_
  show W _ _ _ _ _ _ _
  refine w_ret ?_
  refine ⟨.inr rfl, _, res_tmp K rfl, _, rfl, M.qt⟩
theorem fine_ev (hs5 : G.s 5 = none) (hs11 : G.s 11 = none) (hs12 : G.s 12 = none) (hs23 : G.s 23 = none) (hs24 : G.s 24 = none) {op name : List Nat} {n at_ : Int} {kids : List Nd} {st : St} {cs : List AV} (hf : Fresh st) (hr : RdN st.h.get (.mk op name n at_ kids) cs) : ∃ v st', Ev Try.prog G 5 [.agg cs] st v st' ∧ ∃ b : Bool, v = .bool b ∧ Qt st st' := by
  obtain ⟨kk, rfl, h0⟩ := hr.open_ tkN
  refine ev_fn hs5 Try.func5 rfl Try.ntmps5 rfl (by decide) (by simp) fun T hT => ?_
  have K : KnT [(0, _)] T := (.cons (hT 0) .nil)
  have M := Mem.start hf
  refine w_seq ?_
  refine w_region ?_
  refine wr_box K M rfl (cell5 h0.cell) (by decide) fun c1 _ _ K M => ?_
  refine wr_op K (os_assign rfl) (by decide) fun _ K => ?_
  refine wr_nil ?_
  show W _ _ _ _ _ _ _
  refine w_seq ?_
  refine w_region ?_
  refine wr_load (k := 0) K M rfl rfl (part_agg tkN rfl) (by decide) fun _ K => ?_
  obtain ⟨v4, st4, ev4, z4, rfl, q4⟩ := Depth_ev hs11 hs23 M.fresh (hr.mono M.rows)
  refine wr_op K (os_call rfl ev4) (by decide) fun _ K => ?_
  replace M := M.quiet q4
  refine wr_op K (os_leq rfl rfl) (by decide) fun _ K => ?_
  refine wr_opb K (os_move rfl) (by decide) fun b6 _ e6 K => ?_
  cases b6 with
  | true =>
    refine wr_gy K rfl rfl (os_load rfl (M.load (k := 0) rfl (part_agg tkN rfl))) (by decide) fun _ K => ?_
    obtain ⟨v8, st8, ev8, z8, rfl, q8⟩ := Size_ev hs12 hs24 M.fresh (hr.mono M.rows)
    refine wr_gy K rfl rfl (os_call rfl ev8) (by decide) fun _ K => ?_
    replace M := M.quiet q8
    refine wr_gy K rfl rfl (os_leq rfl rfl) (by decide) fun _ K => ?_
    refine wr_op K (os_pick rfl rfl rfl) (by decide) fun _ K => ?_
    refine wr_op K (os_assign rfl) (by decide) fun _ K => ?_
    refine wr_nil ?_
    show W _ _ _ _ _ _ _
    refine w_ret ?_
    refine ⟨.inr rfl, _, res_tmp K rfl, _, rfl, M.qt⟩
  | false =>
    refine wr_gn K rfl rfl rfl (by decide) fun _ K => ?_
    refine wr_gn K rfl rfl rfl (by decide) fun _ K => ?_
    refine wr_gn K rfl rfl rfl (by decide) fun _ K => ?_
    refine wr_op K (os_pick rfl rfl rfl) (by decide) fun _ K => ?_
    refine wr_op K (os_assign rfl) (by decide) fun _ K => ?_
    refine wr_nil ?_
    show W _ _ _ _ _ _ _
    refine w_ret ?_
    refine ⟨.inr rfl, _, res_tmp K rfl, _, rfl, M.qt⟩
end
end Go.Proofs.Ytmjnbdkjekdkgaa
