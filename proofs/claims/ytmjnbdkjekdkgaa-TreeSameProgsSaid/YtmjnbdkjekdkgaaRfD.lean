/-
  sibylref3's sameDecls: what comes of it.
-/
import Derived.Test.YtmjnbdkjekdkgaaDecl
namespace Go.Proofs.Ytmjnbdkjekdkgaa
open Go Go.RowKit
set_option linter.unusedVariables false
set_option maxRecDepth 100000

theorem sameDs_len {a b : List Dc} (h : sameDs a b = true) : a.length = b.length := by
  induction a generalizing b with
  | nil => cases b with
    | nil => rfl
    | cons _ _ => cases h
  | cons k l ih => cases b with
    | nil => cases h
    | cons k' r =>
      rw [sameDs, Bool.and_eq_true] at h
      rw [List.length_cons, List.length_cons, ih h.2]
theorem refDecls_ev {G : Env} (hs : G.s 22 = none) {st : St} (hf : Fresh st) {a b : List Dc} {ks kt : AV} (h0 : RdDs st.h.get a ks) (h1 : RdDs st.h.get b kt) : ∃ v st', Ev Try.prog G 22 [ks, kt] st v st' ∧ v = .bool (sameDs a b) ∧ Qt st st' := by
  refine ev_fn hs Try.func22 rfl Try.ntmps22 rfl (by decide) (by simp) fun T hT => ?_
  have K : KnT [(0, _), (1, _)] T := (.cons (hT 0) (.cons (hT 1) .nil))
  have M := Mem.start hf
  refine w_seq ?_
  refine w_region ?_
  refine wr_op K (os_assign rfl) (by decide) fun _ K => ?_
  refine wr_nil ?_
  show W _ _ _ _ _ _ _
  refine w_seq ?_
  refine w_seq ?_
  refine w_region ?_
  refine wr_op K (os_move rfl) (by decide) fun _ K => ?_
  refine wr_op K (os_lenL uDcs rfl rfl h0.len) (by decide) fun _ K => ?_
  refine wr_op K (os_move rfl) (by decide) fun _ K => ?_
  refine wr_op K (os_lenL uDcs rfl rfl h1.len) (by decide) fun _ K => ?_
  refine wr_op K (os_neI rfl rfl) (by decide) fun _ K => ?_
  refine wr_nil ?_
  show W _ _ _ _ _ _ _
  refine w_cond (K.opd rfl) (fun h => ?_) (fun h => ?_)
  · refine w_seq ?_
    refine w_region ?_
    refine wr_op K (os_assign rfl) (by decide) fun _ K => ?_
    refine wr_nil ?_
    show W _ _ _ _ _ _ _
    refine w_ret ?_
    refine ⟨.inr rfl, _, res_tmp K rfl, ?_, M.qt⟩
    refine congrArg AV.bool ?_
    cases hb : sameDs a b with
    | false => rfl
    | true =>
      exfalso
      have := sameDs_len hb
      simp [this] at h
  · have hl : a.length = b.length := Int.ofNat_inj.1 (by simpa using h)
    have hla := h0.bnd
    refine w_skip ?_
    show W _ _ _ _ _ _ _
    refine w_seq ?_
    refine w_seq ?_
    refine w_region ?_
    refine wr_op K (os_assign rfl) (by decide) fun _ K => ?_
    refine wr_nil ?_
    show W _ _ _ _ _ _ _
    refine w_block ?_
    refine w_loop (fun m T st2 => ∃ i, i ≤ a.length ∧ m = a.length - i ∧ KnT [(5, .int .i64 (i : Int)), (0, ks), (1, kt)] T ∧ Mem st.h.get st.n [] st2 [] ∧ sameDs a b = sameDs (a.drop i) (b.drop i)) (fun m T st2 hI => ?_) (a.length - 0) _ _ ⟨0, Nat.zero_le _, rfl, .cons (K _ _ rfl) (.cons (K _ _ rfl) (.cons (K _ _ rfl) .nil)), M, rfl⟩
    obtain ⟨i, hi, hm, K, M, hsame⟩ := hI
    refine w_seq ?_
    refine w_seq ?_
    refine w_region ?_
    refine wr_op K (os_move rfl) (by decide) fun _ K => ?_
    refine wr_op K (os_move rfl) (by decide) fun _ K => ?_
    refine wr_op K (os_lenL uDcs rfl rfl h0.len) (by decide) fun _ K => ?_
    refine wr_op K (os_lss rfl rfl) (by decide) fun _ K => ?_
    refine wr_nil ?_
    show W _ _ _ _ _ _ _
    refine w_cond (K.opd rfl) (fun h => ?_) (fun h => ?_)
    · have hlt0 : i < a.length := by have := of_decide_eq_true h; omega
      have hlt1 : i < b.length := hl ▸ hlt0
      obtain ⟨d0, hd0⟩ : ∃ k, a[i]? = some k := ⟨_, List.getElem?_eq_getElem hlt0⟩
      obtain ⟨d1, hd1⟩ : ∃ k, b[i]? = some k := ⟨_, List.getElem?_eq_getElem hlt1⟩
      obtain ⟨c, m1, off, hE0, _, hS0, hI0⟩ := h0.load hd0
      obtain ⟨c', m', off', hE1, _, hS1, hI1⟩ := h1.load hd1
      have hstep := sameDs_step hd0 hd1
      refine w_skip ?_
      show W _ _ _ _ _ _ _
      refine w_seq ?_
      refine w_block ?_
      refine w_seq ?_
      refine w_drawI (l := [(0, 0), (1, 0), (2, 0), (3, 0), (4, 0), (5, 0), (6, 0), (7, 0), (8, 0), (9, 0), (10, 0), (11, 0), (12, 0), (13, 0), (14, 0), (15, 0), (16, 0), (17, 0), (18, 0), (19, 0), (20, 0), (21, 0), (22, 0), (23, 0)]) (by kernel_rfl) ?_
      refine wd_op rfl K (os_move rfl) rfl (by decide) fun _ K => ?_
      refine wd_op rfl K (os_move rfl) rfl (by decide) fun _ K => ?_
      refine wd_op rfl K (os_indexAddr eDcs (congrArg some hE0) rfl hlt0) rfl (by decide) fun _ K => ?_
      refine wd_op rfl K (os_fieldAddr fDc0 rfl) rfl (by decide) fun _ K => ?_
      refine wd_op rfl K (os_load rfl (M.load0 hS0)) rfl (by decide) fun _ K => ?_
      refine wd_op rfl K (os_move rfl) rfl (by decide) fun _ K => ?_
      refine wd_op rfl K (os_move rfl) rfl (by decide) fun _ K => ?_
      refine wd_op rfl K (os_indexAddr eDcs (congrArg some hE1) rfl hlt1) rfl (by decide) fun _ K => ?_
      refine wd_op rfl K (os_fieldAddr fDc0 rfl) rfl (by decide) fun _ K => ?_
      refine wd_op rfl K (os_load rfl (M.load0 hS1)) rfl (by decide) fun _ K => ?_
      refine wd_op rfl K (os_neS rfl rfl) rfl (by decide) fun _ K => ?_
      refine wd_opb rfl K (os_move rfl) rfl (by decide) fun b28 _ e28 K => ?_
      cases b28 with
      | true =>
        refine wd_gn rfl K rfl rfl rfl (by decide) fun _ _ K => ?_
        refine wd_gn rfl K rfl rfl rfl (by decide) fun _ _ K => ?_
        refine wd_gn rfl K rfl rfl rfl (by decide) fun _ _ K => ?_
        refine wd_gn rfl K rfl rfl rfl (by decide) fun _ _ K => ?_
        refine wd_gn rfl K rfl rfl rfl (by decide) fun _ _ K => ?_
        refine wd_gn rfl K rfl rfl rfl (by decide) fun _ _ K => ?_
        refine wd_gn rfl K rfl rfl rfl (by decide) fun _ _ K => ?_
        refine wd_gn rfl K rfl rfl rfl (by decide) fun _ _ K => ?_
        refine wd_gn rfl K rfl rfl rfl (by decide) fun _ _ K => ?_
        refine wd_gn rfl K rfl rfl rfl (by decide) fun _ _ K => ?_
        refine wd_gn rfl K rfl rfl rfl (by decide) fun _ _ K => ?_
        refine wd_op rfl K (os_pick rfl rfl rfl) rfl (by decide) fun _ K => ?_
        refine wd_nil ?_
        show W _ _ _ _ _ _ _
        refine w_cond (t := true) (K.opd rfl) (fun _ => ?_) (fun h => by cases h)
        refine w_seq ?_
        refine w_region ?_
        refine wr_op K (os_assign rfl) (by decide) fun _ K => ?_
        refine wr_nil ?_
        show W _ _ _ _ _ _ _
        refine w_ret ?_
        refine ⟨.inr rfl, _, res_tmp K rfl, ?_, M.qt⟩
        refine congrArg AV.bool ?_
        rw [hsame, hstep, show sameD _ _ = false by simp at e28; simp [sameD, e28], Bool.false_and]
      | false =>
        refine wd_gy rfl K rfl rfl (os_move rfl) rfl (by decide) fun _ K => ?_
        refine wd_gy rfl K rfl rfl (os_move rfl) rfl (by decide) fun _ K => ?_
        refine wd_gy rfl K rfl rfl (os_indexAddr eDcs (congrArg some hE0) rfl hlt0) rfl (by decide) fun _ K => ?_
        refine wd_gy rfl K rfl rfl (os_fieldAddr fDc1 rfl) rfl (by decide) fun _ K => ?_
        refine wd_gy rfl K rfl rfl (os_load rfl (M.load0 hI0)) rfl (by decide) fun _ K => ?_
        refine wd_gy rfl K rfl rfl (os_move rfl) rfl (by decide) fun _ K => ?_
        refine wd_gy rfl K rfl rfl (os_move rfl) rfl (by decide) fun _ K => ?_
        refine wd_gy rfl K rfl rfl (os_indexAddr eDcs (congrArg some hE1) rfl hlt1) rfl (by decide) fun _ K => ?_
        refine wd_gy rfl K rfl rfl (os_fieldAddr fDc1 rfl) rfl (by decide) fun _ K => ?_
        refine wd_gy rfl K rfl rfl (os_load rfl (M.load0 hI1)) rfl (by decide) fun _ K => ?_
        refine wd_gy rfl K rfl rfl (os_neI rfl rfl) rfl (by decide) fun _ K => ?_
        refine wd_op rfl K (os_pick rfl rfl rfl) rfl (by decide) fun _ K => ?_
        refine wd_nil ?_
        show W _ _ _ _ _ _ _
        refine w_cond (K.opd rfl) (fun h => ?_) (fun h => ?_)
        · refine w_seq ?_
          refine w_region ?_
          refine wr_op K (os_assign rfl) (by decide) fun _ K => ?_
          refine wr_nil ?_
          show W _ _ _ _ _ _ _
          refine w_ret ?_
          refine ⟨.inr rfl, _, res_tmp K rfl, ?_, M.qt⟩
          refine congrArg AV.bool ?_
          rw [hsame, hstep, show sameD _ _ = false by
            have h := (show (!decide (d0.order = d1.order)) = true from h)
            simp at h
            simp [sameD, h], Bool.false_and]
        · refine w_skip ?_
          show W _ _ _ _ _ _ _
          refine w_region ?_
          refine wr_op K (os_move rfl) (by decide) fun _ K => ?_
          refine wr_op K (os_add rfl rfl (by omega) (by omega)) (by decide) fun _ K => ?_
          refine wr_op K (os_assign rfl) (by decide) fun _ K => ?_
          refine wr_nil ?_
          refine ⟨a.length - (i + 1), by omega, i + 1, hlt0, rfl, .cons (K _ _ rfl) (.cons (K _ _ rfl) (.cons (K _ _ rfl) .nil)), M, ?_⟩
          rw [hsame, hstep, show sameD _ _ = true by
            have h := (show (!decide (d0.order = d1.order)) = false from h)
            simp at h e28
            simp [sameD, h, e28], Bool.true_and]
    · refine w_exit ?_
      show W _ _ _ _ _ _ _
      refine w_seq ?_
      refine w_region ?_
      refine wr_op K (os_assign rfl) (by decide) fun _ K => ?_
      refine wr_nil ?_
      show W _ _ _ _ _ _ _
      refine w_ret ?_
      refine ⟨.inr rfl, _, res_tmp K rfl, ?_, M.qt⟩
      refine congrArg AV.bool ?_
      have hge : i = a.length := by have := of_decide_eq_false h; omega
      rw [hsame, List.drop_eq_nil_of_le (by omega), List.drop_eq_nil_of_le (by omega)]
      rfl
end Go.Proofs.Ytmjnbdkjekdkgaa
