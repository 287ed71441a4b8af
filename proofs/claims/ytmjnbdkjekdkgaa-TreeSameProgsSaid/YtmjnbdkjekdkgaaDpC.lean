/-
  sibylref3's deep and count: they answer.
-/
import Derived.Test.YtmjnbdkjekdkgaaEqF
import Derived.Test.YtmjnbdkjekdkgaaSymF
namespace Go.Proofs.Ytmjnbdkjekdkgaa
open Go Go.RowKit
set_option linter.unusedVariables false
set_option maxRecDepth 100000

theorem deep_ev {G : Env} (hs23 : G.s 23 = none) (k : Nd) : ∀ (d : Int) (st : St) (cs : List AV), -1000000 ≤ d → d ≤ 1000000 → Fresh st → RdN st.h.get k cs → ∃ v st', Ev Try.prog G 23 [.agg cs, .int .i64 d] st v st' ∧ ∃ z : Int, v = .int .i64 z ∧ z ≤ d ∧ min 1 d ≤ z ∧ Qt st st' := by
  refine nd_rec (M := fun k => ∀ (d : Int) (st : St) (cs : List AV), -1000000 ≤ d → d ≤ 1000000 → Fresh st → RdN st.h.get k cs → ∃ v st', Ev Try.prog G 23 [.agg cs, .int .i64 d] st v st' ∧ ∃ z : Int, v = .int .i64 z ∧ z ≤ d ∧ min 1 d ≤ z ∧ Qt st st') (fun op name n at_ kids ih => ?_) k
  intro d st cs hd1 hd2 hf hr
  obtain ⟨kk, rfl, h0⟩ := hr.open_ tkN
  have hbnd := h0.bnd
  refine ev_fn hs23 Try.func23 rfl Try.ntmps23 rfl (by decide) (by simp) fun T hT => ?_
  have K : KnT [(0, _), (1, _)] T := (.cons (hT 0) (.cons (hT 1) .nil))
  have M := Mem.start hf
  refine w_seq ?_
  refine w_region ?_
  refine wr_box K M rfl (cell5 h0.cell) (by decide) fun c2 _ _ K M => ?_
  refine wr_op K (os_assign rfl) (by decide) fun _ K => ?_
  refine wr_nil ?_
  show W _ _ _ _ _ _ _
  refine w_seq ?_
  refine w_seq ?_
  refine w_region ?_
  refine wr_op K (os_move rfl) (by decide) fun _ K => ?_
  refine wr_op K (os_leq rfl rfl) (by decide) fun _ K => ?_
  refine wr_nil ?_
  show W _ _ _ _ _ _ _
  refine w_cond (K.opd rfl) (fun h => ?_) (fun h => ?_)
  · refine w_seq ?_
    refine w_region ?_
    refine wr_op K (os_move rfl) (by decide) fun _ K => ?_
    refine wr_op K (os_min rfl rfl) (by decide) fun _ K => ?_
    refine wr_op K (os_assign rfl) (by decide) fun _ K => ?_
    refine wr_nil ?_
    show W _ _ _ _ _ _ _
    refine w_ret ?_
    refine ⟨.inr rfl, _, res_tmp K rfl, ?_⟩
    have h := of_decide_eq_true h
    exact ⟨_, rfl, by omega, by omega, M.qt⟩
  · have h := of_decide_eq_false h
    refine w_skip ?_
    show W _ _ _ _ _ _ _
    refine w_seq ?_
    refine w_region ?_
    refine wr_op K (os_assign rfl) (by decide) fun _ K => ?_
    refine wr_nil ?_
    show W _ _ _ _ _ _ _
    refine w_seq ?_
    refine w_seq ?_
    refine w_region ?_
    refine wr_op K (os_assign rfl) (by decide) fun _ K => ?_
    refine wr_nil ?_
    show W _ _ _ _ _ _ _
    refine w_block ?_
    refine w_loop (fun r T st2 => ∃ (i : Nat) (m : Int), i ≤ kids.length ∧ r = kids.length - i ∧ KnT [(6, .int .i64 (i : Int)), (5, .int .i64 m), (2, .ptr c2 0 0), (1, .int .i64 d)] T ∧ Mem st.h.get st.n [] st2 [(c2, 0, [.str op, .str name, .int .i64 n, .int .i64 at_, kk])] ∧ 0 ≤ m ∧ m ≤ d - 1) (fun r T st2 hI => ?_) (kids.length - 0) _ _ ⟨0, 0, Nat.zero_le _, rfl, .cons (K _ _ rfl) (.cons (K _ _ rfl) (.cons (K _ _ rfl) (.cons (K _ _ rfl) .nil))), M, Int.le_refl _, by omega⟩
    obtain ⟨i, m, hi, hr2, K, M, hm1, hm2⟩ := hI
    refine w_seq ?_
    refine w_seq ?_
    refine w_region ?_
    refine wr_op K (os_move rfl) (by decide) fun _ K => ?_
    refine wr_op K (os_fieldAddr fN4 rfl) (by decide) fun _ K => ?_
    refine wr_load (k := 0) K M rfl rfl (part_one tkKids rfl) (by decide) fun _ K => ?_
    refine wr_op K (os_lenL uKids rfl rfl h0.len) (by decide) fun _ K => ?_
    refine wr_op K (os_lss rfl rfl) (by decide) fun _ K => ?_
    refine wr_nil ?_
    show W _ _ _ _ _ _ _
    refine w_cond (K.opd rfl) (fun h => ?_) (fun h => ?_)
    · have hlt0 : i < kids.length := by have := of_decide_eq_true h; omega
      obtain ⟨k, hk⟩ : ∃ k, kids[i]? = some k := ⟨_, List.getElem?_eq_getElem hlt0⟩
      obtain ⟨c, m1, off, cs, hE0, hL0, hR0⟩ := h0.at_ i k hk
      have hka_m : k ∈ kids := List.mem_of_getElem? hk
      refine w_skip ?_
      show W _ _ _ _ _ _ _
      refine w_seq ?_
      refine w_block ?_
      refine w_region ?_
      refine wr_op K (os_move rfl) (by decide) fun _ K => ?_
      refine wr_op K (os_fieldAddr fN4 rfl) (by decide) fun _ K => ?_
      refine wr_load (k := 0) K M rfl rfl (part_one tkKids rfl) (by decide) fun _ K => ?_
      refine wr_op K (os_move rfl) (by decide) fun _ K => ?_
      refine wr_op K (os_indexAddr eKids (congrArg some hE0) rfl hlt0) (by decide) fun _ K => ?_
      refine wr_op K (os_load rfl (M.load0 hL0)) (by decide) fun _ K => ?_
      refine wr_op K (os_move rfl) (by decide) fun _ K => ?_
      refine wr_op K (os_sub rfl rfl (by omega) (by omega)) (by decide) fun _ K => ?_
      obtain ⟨v26, st26, ev26, z26, rfl, hz1, hz2, q26⟩ := ih _ hka_m (d - 1) _ _ (by omega) (by omega) M.fresh (hR0.mono M.rows)
      refine wr_op K (os_call rfl ev26) (by decide) fun _ K => ?_
      replace M := M.quiet q26
      refine wr_op K (os_max rfl rfl) (by decide) fun _ K => ?_
      refine wr_op K (os_assign rfl) (by decide) fun _ K => ?_
      refine wr_nil ?_
      show W _ _ _ _ _ _ _
      refine w_region ?_
      refine wr_op K (os_move rfl) (by decide) fun _ K => ?_
      refine wr_op K (os_add rfl rfl (by omega) (by omega)) (by decide) fun _ K => ?_
      refine wr_op K (os_assign rfl) (by decide) fun _ K => ?_
      refine wr_nil ?_
      exact ⟨kids.length - (i + 1), by omega, i + 1, max m z26, hlt0, rfl, .cons (K _ _ rfl) (.cons (K _ _ rfl) (.cons (K _ _ rfl) (.cons (K _ _ rfl) .nil))), M, by omega, by omega⟩
    · refine w_exit ?_
      show W _ _ _ _ _ _ _
      refine w_seq ?_
      refine w_region ?_
      refine wr_op K (os_move rfl) (by decide) fun _ K => ?_
      refine wr_op K (os_add rfl rfl (by omega) (by omega)) (by decide) fun _ K => ?_
      refine wr_op K (os_assign rfl) (by decide) fun _ K => ?_
      refine wr_nil ?_
      show W _ _ _ _ _ _ _
      refine w_ret ?_
      refine ⟨.inr rfl, _, res_tmp K rfl, ?_⟩
      exact ⟨_, rfl, by omega, by omega, M.qt⟩
theorem count_ev {G : Env} (hs24 : G.s 24 = none) (k : Nd) : ∀ (d : Int) (st : St) (cs : List AV), -1000000 ≤ d → d ≤ 1000000 → Fresh st → RdN st.h.get k cs → ∃ v st', Ev Try.prog G 24 [.agg cs, .int .i64 d] st v st' ∧ ∃ z : Int, v = .int .i64 z ∧ z ≤ d ∧ min 1 d ≤ z ∧ Qt st st' := by
  refine nd_rec (M := fun k => ∀ (d : Int) (st : St) (cs : List AV), -1000000 ≤ d → d ≤ 1000000 → Fresh st → RdN st.h.get k cs → ∃ v st', Ev Try.prog G 24 [.agg cs, .int .i64 d] st v st' ∧ ∃ z : Int, v = .int .i64 z ∧ z ≤ d ∧ min 1 d ≤ z ∧ Qt st st') (fun op name n at_ kids ih => ?_) k
  intro d st cs hd1 hd2 hf hr
  obtain ⟨kk, rfl, h0⟩ := hr.open_ tkN
  have hbnd := h0.bnd
  refine ev_fn hs24 Try.func24 rfl Try.ntmps24 rfl (by decide) (by simp) fun T hT => ?_
  have K : KnT [(0, _), (1, _)] T := (.cons (hT 0) (.cons (hT 1) .nil))
  have M := Mem.start hf
  refine w_seq ?_
  refine w_region ?_
  refine wr_box K M rfl (cell5 h0.cell) (by decide) fun c2 _ _ K M => ?_
  refine wr_op K (os_assign rfl) (by decide) fun _ K => ?_
  refine wr_nil ?_
  show W _ _ _ _ _ _ _
  refine w_seq ?_
  refine w_region ?_
  refine wr_op K (os_assign rfl) (by decide) fun _ K => ?_
  refine wr_nil ?_
  show W _ _ _ _ _ _ _
  refine w_seq ?_
  refine w_seq ?_
  refine w_region ?_
  refine wr_op K (os_assign rfl) (by decide) fun _ K => ?_
  refine wr_nil ?_
  show W _ _ _ _ _ _ _
  refine w_block ?_
  refine w_loop (fun r T st2 => ∃ (i : Nat) (m : Int), i ≤ kids.length ∧ r = kids.length - i ∧ KnT [(6, .int .i64 (i : Int)), (5, .int .i64 m), (2, .ptr c2 0 0), (1, .int .i64 d)] T ∧ Mem st.h.get st.n [] st2 [(c2, 0, [.str op, .str name, .int .i64 n, .int .i64 at_, kk])] ∧ 1 ≤ m ∧ m ≤ max 1 d) (fun r T st2 hI => ?_) (kids.length - 0) _ _ ⟨0, 1, Nat.zero_le _, rfl, .cons (K _ _ rfl) (.cons (K _ _ rfl) (.cons (K _ _ rfl) (.cons (K _ _ rfl) .nil))), M, Int.le_refl _, by omega⟩
  obtain ⟨i, m, hi, hr2, K, M, hm1, hm2⟩ := hI
  refine w_seq ?_
  refine w_seq ?_
  refine w_region ?_
  refine wr_op K (os_move rfl) (by decide) fun _ K => ?_
  refine wr_op K (os_fieldAddr fN4 rfl) (by decide) fun _ K => ?_
  refine wr_load (k := 0) K M rfl rfl (part_one tkKids rfl) (by decide) fun _ K => ?_
  refine wr_op K (os_lenL uKids rfl rfl h0.len) (by decide) fun _ K => ?_
  refine wr_op K (os_lss rfl rfl) (by decide) fun _ K => ?_
  refine wr_opb K (os_move rfl) (by decide) fun b12 _ e12 K => ?_
  cases b12 with
  | true =>
    refine wr_gy K rfl rfl (os_move rfl) (by decide) fun _ K => ?_
    refine wr_gy K rfl rfl (os_move rfl) (by decide) fun _ K => ?_
    refine wr_gy K rfl rfl (os_lss rfl rfl) (by decide) fun _ K => ?_
    refine wr_op K (os_pick rfl rfl rfl) (by decide) fun _ K => ?_
    refine wr_nil ?_
    show W _ _ _ _ _ _ _
    refine w_cond (K.opd rfl) (fun h => ?_) (fun h => ?_)
    · have hlt0 : i < kids.length := by have := of_decide_eq_true e12; omega
      have hmd : m < d := of_decide_eq_true h
      obtain ⟨k, hk⟩ : ∃ k, kids[i]? = some k := ⟨_, List.getElem?_eq_getElem hlt0⟩
      obtain ⟨c, m1, off, cs, hE0, hL0, hR0⟩ := h0.at_ i k hk
      have hka_m : k ∈ kids := List.mem_of_getElem? hk
      refine w_skip ?_
      show W _ _ _ _ _ _ _
      refine w_seq ?_
      refine w_block ?_
      refine w_region ?_
      refine wr_op K (os_move rfl) (by decide) fun _ K => ?_
      refine wr_op K (os_fieldAddr fN4 rfl) (by decide) fun _ K => ?_
      refine wr_load (k := 0) K M rfl rfl (part_one tkKids rfl) (by decide) fun _ K => ?_
      refine wr_op K (os_move rfl) (by decide) fun _ K => ?_
      refine wr_op K (os_indexAddr eKids (congrArg some hE0) rfl hlt0) (by decide) fun _ K => ?_
      refine wr_op K (os_load rfl (M.load0 hL0)) (by decide) fun _ K => ?_
      refine wr_op K (os_move rfl) (by decide) fun _ K => ?_
      refine wr_op K (os_move rfl) (by decide) fun _ K => ?_
      refine wr_op K (os_sub rfl rfl (by omega) (by omega)) (by decide) fun _ K => ?_
      obtain ⟨v28, st28, ev28, z28, rfl, hz1, hz2, q28⟩ := ih _ hka_m (d - m) _ _ (by omega) (by omega) M.fresh (hR0.mono M.rows)
      refine wr_op K (os_call rfl ev28) (by decide) fun _ K => ?_
      replace M := M.quiet q28
      refine wr_op K (os_add rfl rfl (by omega) (by omega)) (by decide) fun _ K => ?_
      refine wr_op K (os_assign rfl) (by decide) fun _ K => ?_
      refine wr_nil ?_
      show W _ _ _ _ _ _ _
      refine w_region ?_
      refine wr_op K (os_move rfl) (by decide) fun _ K => ?_
      refine wr_op K (os_add rfl rfl (by omega) (by omega)) (by decide) fun _ K => ?_
      refine wr_op K (os_assign rfl) (by decide) fun _ K => ?_
      refine wr_nil ?_
      exact ⟨kids.length - (i + 1), by omega, i + 1, m + z28, hlt0, rfl, .cons (K _ _ rfl) (.cons (K _ _ rfl) (.cons (K _ _ rfl) (.cons (K _ _ rfl) .nil))), M, by omega, by omega⟩
    · refine w_exit ?_
      show W _ _ _ _ _ _ _
      refine w_seq ?_
      refine w_region ?_
      refine wr_op K (os_move rfl) (by decide) fun _ K => ?_
      refine wr_op K (os_move rfl) (by decide) fun _ K => ?_
      refine wr_op K (os_min rfl rfl) (by decide) fun _ K => ?_
      refine wr_op K (os_assign rfl) (by decide) fun _ K => ?_
      refine wr_nil ?_
      show W _ _ _ _ _ _ _
      refine w_ret ?_
      refine ⟨.inr rfl, _, res_tmp K rfl, ?_⟩
      exact ⟨_, rfl, by omega, by omega, M.qt⟩
  | false =>
    refine wr_gn K rfl rfl rfl (by decide) fun _ K => ?_
    refine wr_gn K rfl rfl rfl (by decide) fun _ K => ?_
    refine wr_gn K rfl rfl rfl (by decide) fun _ K => ?_
    refine wr_op K (os_pick rfl rfl rfl) (by decide) fun _ K => ?_
    refine wr_nil ?_
    show W _ _ _ _ _ _ _
    refine w_cond (t := false) (K.opd rfl) (fun h => by cases h) (fun _ => ?_)
    refine w_exit ?_
    show W _ _ _ _ _ _ _
    refine w_seq ?_
    refine w_region ?_
    refine wr_op K (os_move rfl) (by decide) fun _ K => ?_
    refine wr_op K (os_move rfl) (by decide) fun _ K => ?_
    refine wr_op K (os_min rfl rfl) (by decide) fun _ K => ?_
    refine wr_op K (os_assign rfl) (by decide) fun _ K => ?_
    refine wr_nil ?_
    show W _ _ _ _ _ _ _
    refine w_ret ?_
    refine ⟨.inr rfl, _, res_tmp K rfl, ?_⟩
    exact ⟨_, rfl, by omega, by omega, M.qt⟩
end Go.Proofs.Ytmjnbdkjekdkgaa
