/-
  tree.Same: what comes of it.
-/
import Derived.Test.YtmjnbdkjekdkgaaEqF
namespace Go.Proofs.Ytmjnbdkjekdkgaa
open Go Go.RowKit
set_option linter.unusedVariables false
set_option maxRecDepth 100000

theorem tree_same {G : Env} (hs6 : G.s 6 = none) (hs13 : G.s 13 = none) (k : Nd) : ∀ (k' : Nd) (st : St), Fresh st → SameC G 6 st k k' := by
  refine nd_rec (M := fun k => ∀ (k' : Nd) (st : St), Fresh st → SameC G 6 st k k') (fun op name n at_ kids ih => ?_) k
  intro k' st0 hf0 st q cs cs' hr hr'
  have hf := q.fresh
  obtain ⟨op', name', n', at', kids'⟩ := k'
  obtain ⟨kk, rfl, h0⟩ := hr.open_ tkN
  obtain ⟨kk', rfl, h1⟩ := hr'.open_ tkN
  refine ev_fn hs6 Try.func6 rfl Try.ntmps6 rfl (by decide) (by simp) fun T hT => ?_
  have K : KnT [(0, _), (1, _)] T := (.cons (hT 0) (.cons (hT 1) .nil))
  have M := Mem.start hf
  refine w_seq ?_
  refine w_region ?_
  refine wr_box K M rfl (cell5 h0.cell) (by decide) fun c2 _ _ K M => ?_
  refine wr_box K M rfl (cell5 h1.cell) (by decide) fun c3 _ _ K M => ?_
  refine wr_op K (os_assign rfl) (by decide) fun _ K => ?_
  refine wr_nil ?_
  show W _ _ _ _ _ _ _
  refine w_seq ?_
  refine w_region ?_
  refine wr_op K (os_fieldAddr fN0 rfl) (by decide) fun _ K => ?_
  refine wr_load (k := 1) K M rfl rfl (part_one tkStr rfl) (by decide) fun _ K => ?_
  refine wr_op K (os_fieldAddr fN0 rfl) (by decide) fun _ K => ?_
  refine wr_load (k := 0) K M rfl rfl (part_one tkStr rfl) (by decide) fun _ K => ?_
  refine wr_op K (os_eqS rfl rfl) (by decide) fun _ K => ?_
  refine wr_opb K (os_move rfl) (by decide) fun b10 _ e10 K => ?_
  cases b10 with
  | true =>
    refine wr_gy K rfl rfl (os_fieldAddr fN1 rfl) (by decide) fun _ K => ?_
    refine wr_gy K rfl rfl (os_load rfl (M.load (k := 1) rfl (part_one tkStr rfl))) (by decide) fun _ K => ?_
    refine wr_gy K rfl rfl (os_fieldAddr fN1 rfl) (by decide) fun _ K => ?_
    refine wr_gy K rfl rfl (os_load rfl (M.load (k := 0) rfl (part_one tkStr rfl))) (by decide) fun _ K => ?_
    refine wr_gy K rfl rfl (os_eqS rfl rfl) (by decide) fun _ K => ?_
    refine wr_op K (os_pick rfl rfl rfl) (by decide) fun _ K => ?_
    refine wr_opb K (os_move rfl) (by decide) fun b17 _ e17 K => ?_
    cases b17 with
    | true =>
      refine wr_gy K rfl rfl (os_fieldAddr fN2 rfl) (by decide) fun _ K => ?_
      refine wr_gy K rfl rfl (os_load rfl (M.load (k := 1) rfl (part_one tkInt rfl))) (by decide) fun _ K => ?_
      refine wr_gy K rfl rfl (os_fieldAddr fN2 rfl) (by decide) fun _ K => ?_
      refine wr_gy K rfl rfl (os_load rfl (M.load (k := 0) rfl (part_one tkInt rfl))) (by decide) fun _ K => ?_
      refine wr_gy K rfl rfl (os_eqI rfl rfl) (by decide) fun _ K => ?_
      refine wr_op K (os_pick rfl rfl rfl) (by decide) fun _ K => ?_
      refine wr_opb K (os_move rfl) (by decide) fun b24 _ e24 K => ?_
      cases b24 with
      | true =>
        refine wr_gy K rfl rfl (os_fieldAddr fN4 rfl) (by decide) fun _ K => ?_
        refine wr_gy K rfl rfl (os_load rfl (M.load (k := 1) rfl (part_one tkKids rfl))) (by decide) fun _ K => ?_
        refine wr_gy K rfl rfl (os_fieldAddr fN4 rfl) (by decide) fun _ K => ?_
        refine wr_gy K rfl rfl (os_load rfl (M.load (k := 0) rfl (part_one tkKids rfl))) (by decide) fun _ K => ?_
        obtain ⟨v29, st29, ev29, rfl, q29⟩ := equal_nodes hs13 M.fresh (M.rdk h0) (M.rdk h1) (fun k hk k' => ih k hk k' _ M.fresh)
        refine wr_gy K rfl rfl (os_call rfl ev29) (by decide) fun _ K => ?_
        replace M := M.quiet q29
        refine wr_op K (os_pick rfl rfl rfl) (by decide) fun _ K => ?_
        refine wr_op K (os_assign rfl) (by decide) fun _ K => ?_
        refine wr_nil ?_
        show W _ _ _ _ _ _ _
        refine w_ret ?_
        refine ⟨.inr rfl, _, res_tmp K rfl, ?_, M.qt⟩
        exact congrArg AV.bool (by simp_all [sameN])
      | false =>
        refine wr_gn K rfl rfl rfl (by decide) fun _ K => ?_
        refine wr_gn K rfl rfl rfl (by decide) fun _ K => ?_
        refine wr_gn K rfl rfl rfl (by decide) fun _ K => ?_
        refine wr_gn K rfl rfl rfl (by decide) fun _ K => ?_
        refine wr_gn K rfl rfl rfl (by decide) fun _ K => ?_
        refine wr_op K (os_pick rfl rfl rfl) (by decide) fun _ K => ?_
        refine wr_op K (os_assign rfl) (by decide) fun _ K => ?_
        refine wr_nil ?_
        show W _ _ _ _ _ _ _
        refine w_ret ?_
        refine ⟨.inr rfl, _, res_tmp K rfl, ?_, M.qt⟩
        exact congrArg AV.bool (by simp_all [sameN])
    | false =>
      refine wr_gn K rfl rfl rfl (by decide) fun _ K => ?_
      refine wr_gn K rfl rfl rfl (by decide) fun _ K => ?_
      refine wr_gn K rfl rfl rfl (by decide) fun _ K => ?_
      refine wr_gn K rfl rfl rfl (by decide) fun _ K => ?_
      refine wr_gn K rfl rfl rfl (by decide) fun _ K => ?_
      refine wr_op K (os_pick rfl rfl rfl) (by decide) fun _ K => ?_
      refine wr_op K (os_move rfl) (by decide) fun _ K => ?_
      refine wr_gn K rfl rfl rfl (by decide) fun _ K => ?_
      refine wr_gn K rfl rfl rfl (by decide) fun _ K => ?_
      refine wr_gn K rfl rfl rfl (by decide) fun _ K => ?_
      refine wr_gn K rfl rfl rfl (by decide) fun _ K => ?_
      refine wr_gn K rfl rfl rfl (by decide) fun _ K => ?_
      refine wr_op K (os_pick rfl rfl rfl) (by decide) fun _ K => ?_
      refine wr_op K (os_assign rfl) (by decide) fun _ K => ?_
      refine wr_nil ?_
      show W _ _ _ _ _ _ _
      refine w_ret ?_
      refine ⟨.inr rfl, _, res_tmp K rfl, ?_, M.qt⟩
      exact congrArg AV.bool (by simp_all [sameN])
  | false =>
    refine wr_gn K rfl rfl rfl (by decide) fun _ K => ?_
    refine wr_gn K rfl rfl rfl (by decide) fun _ K => ?_
    refine wr_gn K rfl rfl rfl (by decide) fun _ K => ?_
    refine wr_gn K rfl rfl rfl (by decide) fun _ K => ?_
    refine wr_gn K rfl rfl rfl (by decide) fun _ K => ?_
    refine wr_op K (os_pick rfl rfl rfl) (by decide) fun _ K => ?_
    refine wr_op K (os_move rfl) (by decide) fun _ K => ?_
    refine wr_gn K rfl rfl rfl (by decide) fun _ K => ?_
    refine wr_gn K rfl rfl rfl (by decide) fun _ K => ?_
    refine wr_gn K rfl rfl rfl (by decide) fun _ K => ?_
    refine wr_gn K rfl rfl rfl (by decide) fun _ K => ?_
    refine wr_gn K rfl rfl rfl (by decide) fun _ K => ?_
    refine wr_op K (os_pick rfl rfl rfl) (by decide) fun _ K => ?_
    refine wr_op K (os_move rfl) (by decide) fun _ K => ?_
    refine wr_gn K rfl rfl rfl (by decide) fun _ K => ?_
    refine wr_gn K rfl rfl rfl (by decide) fun _ K => ?_
    refine wr_gn K rfl rfl rfl (by decide) fun _ K => ?_
    refine wr_gn K rfl rfl rfl (by decide) fun _ K => ?_
    refine wr_gn K rfl rfl rfl (by decide) fun _ K => ?_
    refine wr_op K (os_pick rfl rfl rfl) (by decide) fun _ K => ?_
    refine wr_op K (os_assign rfl) (by decide) fun _ K => ?_
    refine wr_nil ?_
    show W _ _ _ _ _ _ _
    refine w_ret ?_
    refine ⟨.inr rfl, _, res_tmp K rfl, ?_, M.qt⟩
    exact congrArg AV.bool (by simp_all [sameN])
end Go.Proofs.Ytmjnbdkjekdkgaa
