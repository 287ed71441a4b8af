/-
  sibylref3.Same: what comes of it.
-/
import Derived.Test.YtmjnbdkjekdkgaaEqF
import Derived.Test.YtmjnbdkjekdkgaaSymF
namespace Go.Proofs.Ytmjnbdkjekdkgaa
open Go Go.RowKit
set_option linter.unusedVariables false
set_option maxRecDepth 100000

theorem sameL_len {a b : List Nd} (h : sameL a b = true) : a.length = b.length := by
  induction a generalizing b with
  | nil => cases b with
    | nil => rfl
    | cons _ _ => cases h
  | cons k l ih => cases b with
    | nil => cases h
    | cons k' r =>
      rw [sameL, Bool.and_eq_true] at h
      rw [List.length_cons, List.length_cons, ih h.2]
theorem ref_same {G : Env} (hs7 : G.s 7 = none) (k : Nd) : ∀ (k' : Nd) (st : St), Fresh st → SameC G 7 st k k' := by
  refine nd_rec (M := fun k => ∀ (k' : Nd) (st : St), Fresh st → SameC G 7 st k k') (fun op name n at_ kids ih => ?_) k
  intro k' st0 hf0 st q cs cs' hr hr'
  have hf := q.fresh
  obtain ⟨op', name', n', at', kids'⟩ := k'
  obtain ⟨kk, rfl, h0⟩ := hr.open_ tkN
  obtain ⟨kk', rfl, h1⟩ := hr'.open_ tkN
  refine ev_fn hs7 Try.func7 rfl Try.ntmps7 rfl (by decide) (by simp) fun T hT => ?_
  have K : KnT [(0, _), (1, _)] T := (.cons (hT 0) (.cons (hT 1) .nil))
  have M := Mem.start hf
  refine w_seq ?_
  refine w_region ?_
  refine wr_box K M rfl (cell5 h0.cell) (by decide) fun c2 _ _ K M => ?_
  refine wr_box K M rfl (cell5 h1.cell) (by decide) fun c3 _ _ K M => ?_
  refine wr_op K (os_assign rfl) (by decide) fun _ K => ?_
  refine wr_nil ?_
  show W _ _ _ _ _ _ _
  refine w_seq ?_
  refine w_seq ?_
  refine w_region ?_
  refine wr_op K (os_fieldAddr fN0 rfl) (by decide) fun _ K => ?_
  refine wr_load (k := 1) K M rfl rfl (part_one tkStr rfl) (by decide) fun _ K => ?_
  refine wr_op K (os_fieldAddr fN0 rfl) (by decide) fun _ K => ?_
  refine wr_load (k := 0) K M rfl rfl (part_one tkStr rfl) (by decide) fun _ K => ?_
  refine wr_op K (os_neS rfl rfl) (by decide) fun _ K => ?_
  refine wr_opb K (os_move rfl) (by decide) fun b11 _ e11 K => ?_
  cases b11 with
  | true =>
    refine wr_gn K rfl rfl rfl (by decide) fun _ K => ?_
    refine wr_gn K rfl rfl rfl (by decide) fun _ K => ?_
    refine wr_gn K rfl rfl rfl (by decide) fun _ K => ?_
    refine wr_gn K rfl rfl rfl (by decide) fun _ K => ?_
    refine wr_gn K rfl rfl rfl (by decide) fun _ K => ?_
    refine wr_op K (os_pick rfl rfl rfl) (by decide) fun _ K => ?_
    refine wr_op K (os_move rfl) (by decide) fun _ K => ?_
    refine wr_gn K rfl rfl rfl (by decide) fun _ K => ?_
    refine wr_gn K rfl rfl rfl (by decide) fun _ K => ?_
    refine wr_gn K rfl rfl rfl (by decide) fun _ K => ?_
    refine wr_gn K rfl rfl rfl (by decide) fun _ K => ?_
    refine wr_gn K rfl rfl rfl (by decide) fun _ K => ?_
    refine wr_op K (os_pick rfl rfl rfl) (by decide) fun _ K => ?_
    refine wr_op K (os_move rfl) (by decide) fun _ K => ?_
    refine wr_gn K rfl rfl rfl (by decide) fun _ K => ?_
    refine wr_gn K rfl rfl rfl (by decide) fun _ K => ?_
    refine wr_gn K rfl rfl rfl (by decide) fun _ K => ?_
    refine wr_gn K rfl rfl rfl (by decide) fun _ K => ?_
    refine wr_gn K rfl rfl rfl (by decide) fun _ K => ?_
    refine wr_gn K rfl rfl rfl (by decide) fun _ K => ?_
    refine wr_gn K rfl rfl rfl (by decide) fun _ K => ?_
    refine wr_op K (os_pick rfl rfl rfl) (by decide) fun _ K => ?_
    refine wr_nil ?_
    show W _ _ _ _ _ _ _
    refine w_cond (t := true) (K.opd rfl) (fun _ => ?_) (fun h => by cases h)
    refine w_seq ?_
    refine w_region ?_
    refine wr_op K (os_assign rfl) (by decide) fun _ K => ?_
    refine wr_nil ?_
    show W _ _ _ _ _ _ _
    refine w_ret ?_
    refine ⟨.inr rfl, _, res_tmp K rfl, ?_, M.qt⟩
    exact congrArg AV.bool (by simp_all [sameN])
  | false =>
    refine wr_gy K rfl rfl (os_fieldAddr fN1 rfl) (by decide) fun _ K => ?_
    refine wr_gy K rfl rfl (os_load rfl (M.load (k := 1) rfl (part_one tkStr rfl))) (by decide) fun _ K => ?_
    refine wr_gy K rfl rfl (os_fieldAddr fN1 rfl) (by decide) fun _ K => ?_
    refine wr_gy K rfl rfl (os_load rfl (M.load (k := 0) rfl (part_one tkStr rfl))) (by decide) fun _ K => ?_
    refine wr_gy K rfl rfl (os_neS rfl rfl) (by decide) fun _ K => ?_
    refine wr_op K (os_pick rfl rfl rfl) (by decide) fun _ K => ?_
    refine wr_opb K (os_move rfl) (by decide) fun b18 _ e18 K => ?_
    cases b18 with
    | true =>
      refine wr_gn K rfl rfl rfl (by decide) fun _ K => ?_
      refine wr_gn K rfl rfl rfl (by decide) fun _ K => ?_
      refine wr_gn K rfl rfl rfl (by decide) fun _ K => ?_
      refine wr_gn K rfl rfl rfl (by decide) fun _ K => ?_
      refine wr_gn K rfl rfl rfl (by decide) fun _ K => ?_
      refine wr_op K (os_pick rfl rfl rfl) (by decide) fun _ K => ?_
      refine wr_op K (os_move rfl) (by decide) fun _ K => ?_
      refine wr_gn K rfl rfl rfl (by decide) fun _ K => ?_
      refine wr_gn K rfl rfl rfl (by decide) fun _ K => ?_
      refine wr_gn K rfl rfl rfl (by decide) fun _ K => ?_
      refine wr_gn K rfl rfl rfl (by decide) fun _ K => ?_
      refine wr_gn K rfl rfl rfl (by decide) fun _ K => ?_
      refine wr_gn K rfl rfl rfl (by decide) fun _ K => ?_
      refine wr_gn K rfl rfl rfl (by decide) fun _ K => ?_
      refine wr_op K (os_pick rfl rfl rfl) (by decide) fun _ K => ?_
      refine wr_nil ?_
      show W _ _ _ _ _ _ _
      refine w_cond (t := true) (K.opd rfl) (fun _ => ?_) (fun h => by cases h)
      refine w_seq ?_
      refine w_region ?_
      refine wr_op K (os_assign rfl) (by decide) fun _ K => ?_
      refine wr_nil ?_
      show W _ _ _ _ _ _ _
      refine w_ret ?_
      refine ⟨.inr rfl, _, res_tmp K rfl, ?_, M.qt⟩
      exact congrArg AV.bool (by simp_all [sameN])
    | false =>
      refine wr_gy K rfl rfl (os_fieldAddr fN2 rfl) (by decide) fun _ K => ?_
      refine wr_gy K rfl rfl (os_load rfl (M.load (k := 1) rfl (part_one tkInt rfl))) (by decide) fun _ K => ?_
      refine wr_gy K rfl rfl (os_fieldAddr fN2 rfl) (by decide) fun _ K => ?_
      refine wr_gy K rfl rfl (os_load rfl (M.load (k := 0) rfl (part_one tkInt rfl))) (by decide) fun _ K => ?_
      refine wr_gy K rfl rfl (os_neI rfl rfl) (by decide) fun _ K => ?_
      refine wr_op K (os_pick rfl rfl rfl) (by decide) fun _ K => ?_
      refine wr_opb K (os_move rfl) (by decide) fun b25 _ e25 K => ?_
      cases b25 with
      | true =>
        refine wr_gn K rfl rfl rfl (by decide) fun _ K => ?_
        refine wr_gn K rfl rfl rfl (by decide) fun _ K => ?_
        refine wr_gn K rfl rfl rfl (by decide) fun _ K => ?_
        refine wr_gn K rfl rfl rfl (by decide) fun _ K => ?_
        refine wr_gn K rfl rfl rfl (by decide) fun _ K => ?_
        refine wr_gn K rfl rfl rfl (by decide) fun _ K => ?_
        refine wr_gn K rfl rfl rfl (by decide) fun _ K => ?_
        refine wr_op K (os_pick rfl rfl rfl) (by decide) fun _ K => ?_
        refine wr_nil ?_
        show W _ _ _ _ _ _ _
        refine w_cond (t := true) (K.opd rfl) (fun _ => ?_) (fun h => by cases h)
        refine w_seq ?_
        refine w_region ?_
        refine wr_op K (os_assign rfl) (by decide) fun _ K => ?_
        refine wr_nil ?_
        show W _ _ _ _ _ _ _
        refine w_ret ?_
        refine ⟨.inr rfl, _, res_tmp K rfl, ?_, M.qt⟩
        exact congrArg AV.bool (by simp_all [sameN])
      | false =>
        have hh : sameN (.mk op name n at_ kids) (.mk op' name' n' at' kids') = sameL kids kids' := by
          rw [sameN]
          simp at e11 e18 e25
          simp [e11, e18, e25]
        refine wr_gy K rfl rfl (os_fieldAddr fN4 rfl) (by decide) fun _ K => ?_
        refine wr_gy K rfl rfl (os_load rfl (M.load (k := 1) rfl (part_one tkKids rfl))) (by decide) fun _ K => ?_
        refine wr_gy K rfl rfl (os_lenL uKids rfl rfl h0.len) (by decide) fun _ K => ?_
        refine wr_gy K rfl rfl (os_fieldAddr fN4 rfl) (by decide) fun _ K => ?_
        refine wr_gy K rfl rfl (os_load rfl (M.load (k := 0) rfl (part_one tkKids rfl))) (by decide) fun _ K => ?_
        refine wr_gy K rfl rfl (os_lenL uKids rfl rfl h1.len) (by decide) fun _ K => ?_
        refine wr_gy K rfl rfl (os_neI rfl rfl) (by decide) fun _ K => ?_
        refine wr_op K (os_pick rfl rfl rfl) (by decide) fun _ K => ?_
        refine wr_nil ?_
        show W _ _ _ _ _ _ _
        refine w_cond (K.opd rfl) (fun h => ?_) (fun h => ?_)
        · refine w_seq ?_
          refine w_region ?_
          refine wr_op K (os_assign rfl) (by decide) fun _ K => ?_
          refine wr_nil ?_
          show W _ _ _ _ _ _ _
          refine w_ret ?_
          refine ⟨.inr rfl, _, res_tmp K rfl, ?_, M.qt⟩
          refine congrArg AV.bool (hh.trans ?_).symm
          cases hb : sameL kids kids' with
          | false => rfl
          | true =>
            exfalso
            have := sameL_len hb
            simp [this] at h
        · have hl : kids.length = kids'.length := Int.ofNat_inj.1 (by simpa using h)
          have hla := h0.bnd
          refine w_skip ?_
          show W _ _ _ _ _ _ _
          refine w_seq ?_
          refine w_seq ?_
          refine w_region ?_
          refine wr_op K (os_assign rfl) (by decide) fun _ K => ?_
          refine wr_nil ?_
          show W _ _ _ _ _ _ _
          refine w_block ?_
          refine w_loop (fun m T st2 => ∃ i, i ≤ kids.length ∧ m = kids.length - i ∧ KnT [(5, .int .i64 (i : Int)), (2, .ptr c2 0 0), (3, .ptr c3 0 0)] T ∧ Mem st.h.get st.n [] st2 [(c3, 0, [.str op', .str name', .int .i64 n', .int .i64 at', kk']), (c2, 0, [.str op, .str name, .int .i64 n, .int .i64 at_, kk])] ∧ sameL kids kids' = sameL (kids.drop i) (kids'.drop i)) (fun m T st2 hI => ?_) (kids.length - 0) _ _ ⟨0, Nat.zero_le _, rfl, .cons (K _ _ rfl) (.cons (K _ _ rfl) (.cons (K _ _ rfl) .nil)), M, rfl⟩
          obtain ⟨i, hi, hm, K, M, hsame⟩ := hI
          refine w_seq ?_
          refine w_seq ?_
          refine w_region ?_
          refine wr_op K (os_move rfl) (by decide) fun _ K => ?_
          refine wr_op K (os_fieldAddr fN4 rfl) (by decide) fun _ K => ?_
          refine wr_load (k := 1) K M rfl rfl (part_one tkKids rfl) (by decide) fun _ K => ?_
          refine wr_op K (os_lenL uKids rfl rfl h0.len) (by decide) fun _ K => ?_
          refine wr_op K (os_lss rfl rfl) (by decide) fun _ K => ?_
          refine wr_nil ?_
          show W _ _ _ _ _ _ _
          refine w_cond (K.opd rfl) (fun h => ?_) (fun h => ?_)
          · have hlt0 : i < kids.length := by have := of_decide_eq_true h; omega
            have hlt1 : i < kids'.length := hl ▸ hlt0
            obtain ⟨k, hk⟩ : ∃ k, kids[i]? = some k := ⟨_, List.getElem?_eq_getElem hlt0⟩
            obtain ⟨k', hk'⟩ : ∃ k, kids'[i]? = some k := ⟨_, List.getElem?_eq_getElem hlt1⟩
            obtain ⟨c, m1, off, cs, hE0, hL0, hR0⟩ := h0.at_ i k hk
            obtain ⟨c', m', off', cs', hE1, hL1, hR1⟩ := h1.at_ i k' hk'
            have hka_m : k ∈ kids := List.mem_of_getElem? hk
            have hstep := sameL_step hk hk'
            refine w_skip ?_
            show W _ _ _ _ _ _ _
            refine w_seq ?_
            refine w_block ?_
            refine w_seq ?_
            refine w_drawI (l := [(0, 0), (1, 0), (2, 0), (3, 0), (4, 0), (5, 0), (6, 0), (7, 0), (8, 0), (9, 0), (10, 0), (11, 0)]) (by kernel_rfl) ?_
            refine wd_op rfl K (os_fieldAddr fN4 rfl) rfl (by decide) fun _ K => ?_
            refine wd_op rfl K (os_load rfl (M.load (k := 1) rfl (part_one tkKids rfl))) rfl (by decide) fun _ K => ?_
            refine wd_op rfl K (os_move rfl) rfl (by decide) fun _ K => ?_
            refine wd_op rfl K (os_indexAddr eKids (congrArg some hE0) rfl hlt0) rfl (by decide) fun _ K => ?_
            refine wd_op rfl K (os_load rfl (M.load0 hL0)) rfl (by decide) fun _ K => ?_
            refine wd_op rfl K (os_fieldAddr fN4 rfl) rfl (by decide) fun _ K => ?_
            refine wd_op rfl K (os_load rfl (M.load (k := 0) rfl (part_one tkKids rfl))) rfl (by decide) fun _ K => ?_
            refine wd_op rfl K (os_move rfl) rfl (by decide) fun _ K => ?_
            refine wd_op rfl K (os_indexAddr eKids (congrArg some hE1) rfl hlt1) rfl (by decide) fun _ K => ?_
            refine wd_op rfl K (os_load rfl (M.load0 hL1)) rfl (by decide) fun _ K => ?_
            obtain ⟨v51, st51, ev51, rfl, q51⟩ := ih _ hka_m k' _ M.fresh _ (Qt.refl M.fresh) _ _ (hR0.mono M.rows) (hR1.mono M.rows)
            refine wd_act rfl K (os_call rfl ev51) rfl (by decide) fun _ K => ?_
            replace M := M.quiet q51
            refine wd_op rfl K (os_not rfl) rfl (by decide) fun _ K => ?_
            refine wd_nil ?_
            show W _ _ _ _ _ _ _
            refine w_cond (K.opd rfl) (fun h => ?_) (fun h => ?_)
            · refine w_seq ?_
              refine w_region ?_
              refine wr_op K (os_assign rfl) (by decide) fun _ K => ?_
              refine wr_nil ?_
              show W _ _ _ _ _ _ _
              refine w_ret ?_
              refine ⟨.inr rfl, _, res_tmp K rfl, ?_, M.qt⟩
              refine congrArg AV.bool (hh.trans ?_).symm
              rw [hsame, hstep, show sameN _ _ = false by simpa using h, Bool.false_and]
            · refine w_skip ?_
              show W _ _ _ _ _ _ _
              refine w_region ?_
              refine wr_op K (os_move rfl) (by decide) fun _ K => ?_
              refine wr_op K (os_add rfl rfl (by omega) (by omega)) (by decide) fun _ K => ?_
              refine wr_op K (os_assign rfl) (by decide) fun _ K => ?_
              refine wr_nil ?_
              refine ⟨kids.length - (i + 1), by omega, i + 1, hlt0, rfl, .cons (K _ _ rfl) (.cons (K _ _ rfl) (.cons (K _ _ rfl) .nil)), M, ?_⟩
              rw [hsame, hstep, show sameN _ _ = true by simpa using h, Bool.true_and]
          · refine w_exit ?_
            show W _ _ _ _ _ _ _
            refine w_seq ?_
            refine w_region ?_
            refine wr_op K (os_assign rfl) (by decide) fun _ K => ?_
            refine wr_nil ?_
            show W _ _ _ _ _ _ _
            refine w_ret ?_
            refine ⟨.inr rfl, _, res_tmp K rfl, ?_, M.qt⟩
            refine congrArg AV.bool (hh.trans ?_).symm
            have hge : i = kids.length := by have := of_decide_eq_false h; omega
            rw [hsame, List.drop_eq_nil_of_le (by omega), List.drop_eq_nil_of_le (by omega)]
            rfl
end Go.Proofs.Ytmjnbdkjekdkgaa
