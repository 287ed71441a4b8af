/-
  sibylref3.SameProg: what comes of it.
-/
import Derived.Test.YtmjnbdkjekdkgaaPgm
import Derived.Test.YtmjnbdkjekdkgaaSymG
namespace Go.Proofs.Ytmjnbdkjekdkgaa
open Go Go.RowKit
set_option linter.unusedVariables false
set_option maxRecDepth 100000

theorem samePs_len {a b : List Pd} (h : samePs a b = true) : a.length = b.length := by
  induction a generalizing b with
  | nil => cases b with
    | nil => rfl
    | cons _ _ => cases h
  | cons k l ih => cases b with
    | nil => cases h
    | cons k' r =>
      rw [samePs, Bool.and_eq_true] at h
      rw [List.length_cons, List.length_cons, ih h.2]
theorem eqSc {ks : AV} {m : Nat} (h : slLen ks = some m) : eqCell ks ks = true := by
  cases ks <;> simp only [slLen] at h <;> first | (cases h; done) | skip
  all_goals simp [eqCell, bif']
  rename_i s
  cases s <;> simp [eqON]
theorem eqS {ks : AV} {m : Nat} (h : slLen ks = some m) : eqV ks ks = true := by
  have := eqSc h
  cases ks <;> first | exact this | cases h
theorem lenN {h : Hp} {k : Nd} {op nm : List Nat} {n a : Int} {kk : AV} (hb : RdN h k [.str op, .str nm, .int .i64 n, .int .i64 a, kk]) : slLen kk = some k.kids.length := by
  obtain ⟨o0, s0, m0, z0, l0⟩ := k
  obtain ⟨_, e, h0⟩ := hb.open_ tkN
  injection e with x1 x; injection x with x2 x; injection x with x3 x; injection x with x4 x; injection x with x5 x
  subst x5
  exact h0.len
theorem eq8 {s op nm : List Nat} {n a z : Int} {kp kk : AV} {m1 m2 : Nat} (h1 : slLen kp = some m1) (h2 : slLen kk = some m2) : eqV (.agg [.str s, kp, .str op, .str nm, .int .i64 n, .int .i64 a, kk, .int .i64 z]) (.agg [.str s, kp, .str op, .str nm, .int .i64 n, .int .i64 a, kk, .int .i64 z]) = true := by
  have hT : ∀ l : List Nat, eqT l l = true := fun l => by rw [eqT_eq]; simp
  have hI : ∀ x : Int, eqCell (.int .i64 x) (.int .i64 x) = true := fun x => by show bif' (eqK .i64 .i64) (eqI x x) false = true; rw [eqK_self, eqI_eq]; simp [bif']
  show bif' (eqT s s) (bif' (eqCell kp kp) (bif' (eqT op op) (bif' (eqT nm nm) (bif' (eqCell (.int .i64 n) (.int .i64 n)) (bif' (eqCell (.int .i64 a) (.int .i64 a)) (bif' (eqCell kk kk) (bif' (eqCell (.int .i64 z) (.int .i64 z)) true false) false) false) false) false) false) false) false = true
  rw [hT, hT, hT, hI, hI, hI, eqSc h1, eqSc h2]
  rfl
theorem refProg_ev {st : St} (hf : Fresh st) {p q : Pg} {cs ct : List AV} (hr : RdG st.h.get p cs) (hr' : RdG st.h.get q ct) : ∃ v st', Ev Try.prog envK3 10 [.agg cs, .agg ct] st v st' ∧ v = .bool (sameG p q) ∧ Qt st st' := by
  obtain ⟨kd, kp, op, nm, n, a, kk, rfl, hd0, hp0, hb0⟩ := hr
  obtain ⟨kd', kp', op', nm', n', a', kk', rfl, hd1, hp1, hb1⟩ := hr'
  obtain ⟨ds, ps, mn⟩ := p
  obtain ⟨ds', ps', mn'⟩ := q
  refine ev_fn rfl Try.func10 rfl Try.ntmps10 rfl (by decide) (by simp) fun T hT => ?_
  have K : KnT [(0, _), (1, _)] T := (.cons (hT 0) (.cons (hT 1) .nil))
  have M := Mem.start hf
  refine w_seq ?_
  refine w_region ?_
  refine wr_box K M rfl (cell7 hd0.cell hp0.cell (cellN hb0)) (by decide) fun c2 _ _ K M => ?_
  refine wr_box K M rfl (cell7 hd1.cell hp1.cell (cellN hb1)) (by decide) fun c3 _ _ K M => ?_
  refine wr_op K (os_assign rfl) (by decide) fun _ K => ?_
  refine wr_nil ?_
  show W _ _ _ _ _ _ _
  refine w_seq ?_
  refine w_seq ?_
  refine w_region ?_
  refine wr_op K (os_fieldAddr fPg0 rfl) (by decide) fun _ K => ?_
  refine wr_load (k := 1) K M rfl rfl (part_one tkDcs rfl) (by decide) fun _ K => ?_
  refine wr_op K (os_fieldAddr fPg0 rfl) (by decide) fun _ K => ?_
  refine wr_load (k := 0) K M rfl rfl (part_one tkDcs rfl) (by decide) fun _ K => ?_
  obtain ⟨v12, st12, ev12, rfl, q12⟩ := refDecls_ev (G := envK3) rfl M.fresh (M.rdds hd0) (M.rdds hd1)
  refine wr_op K (os_call rfl ev12) (by decide) fun _ K => ?_
  replace M := M.quiet q12
  refine wr_op K (os_not rfl) (by decide) fun _ K => ?_
  refine wr_opb K (os_move rfl) (by decide) fun b14 _ e14 K => ?_
  cases b14 with
  | true =>
    refine wr_gn K rfl rfl rfl (by decide) fun _ K => ?_
    refine wr_gn K rfl rfl rfl (by decide) fun _ K => ?_
    refine wr_gn K rfl rfl rfl (by decide) fun _ K => ?_
    refine wr_gn K rfl rfl rfl (by decide) fun _ K => ?_
    refine wr_gn K rfl rfl rfl (by decide) fun _ K => ?_
    refine wr_gn K rfl rfl rfl (by decide) fun _ K => ?_
    refine wr_gn K rfl rfl rfl (by decide) fun _ K => ?_
    refine wr_op K (os_pick rfl rfl rfl) (by decide) fun _ K => ?_
    refine wr_op K (os_move rfl) (by decide) fun _ K => ?_
    refine wr_gn K rfl rfl rfl (by decide) fun _ K => ?_
    refine wr_gn K rfl rfl rfl (by decide) fun _ K => ?_
    refine wr_gn K rfl rfl rfl (by decide) fun _ K => ?_
    refine wr_gn K rfl rfl rfl (by decide) fun _ K => ?_
    refine wr_gn K rfl rfl rfl (by decide) fun _ K => ?_
    refine wr_gn K rfl rfl rfl (by decide) fun _ K => ?_
    refine wr_op K (os_pick rfl rfl rfl) (by decide) fun _ K => ?_
    refine wr_nil ?_
    show W _ _ _ _ _ _ _
    refine w_cond (t := true) (K.opd rfl) (fun _ => ?_) (fun h => by cases h)
    refine w_seq ?_
    refine w_region ?_
    refine wr_op K (os_assign rfl) (by decide) fun _ K => ?_
    refine wr_nil ?_
    show W _ _ _ _ _ _ _
    refine w_ret ?_
    refine ⟨.inr rfl, _, res_tmp K rfl, ?_, M.qt⟩
    exact congrArg AV.bool (by simp_all [sameG])
  | false =>
    refine wr_gy K rfl rfl (os_fieldAddr fPg1 rfl) (by decide) fun _ K => ?_
    refine wr_gy K rfl rfl (os_load rfl (M.load (k := 1) rfl (part_one tkPds rfl))) (by decide) fun _ K => ?_
    refine wr_gy K rfl rfl (os_lenL uPds rfl rfl hp0.len) (by decide) fun _ K => ?_
    refine wr_gy K rfl rfl (os_fieldAddr fPg1 rfl) (by decide) fun _ K => ?_
    refine wr_gy K rfl rfl (os_load rfl (M.load (k := 0) rfl (part_one tkPds rfl))) (by decide) fun _ K => ?_
    refine wr_gy K rfl rfl (os_lenL uPds rfl rfl hp1.len) (by decide) fun _ K => ?_
    refine wr_gy K rfl rfl (os_neI rfl rfl) (by decide) fun _ K => ?_
    refine wr_op K (os_pick rfl rfl rfl) (by decide) fun _ K => ?_
    refine wr_opb K (os_move rfl) (by decide) fun b23 _ e23 K => ?_
    cases b23 with
    | true =>
      refine wr_gn K rfl rfl rfl (by decide) fun _ K => ?_
      refine wr_gn K rfl rfl rfl (by decide) fun _ K => ?_
      refine wr_gn K rfl rfl rfl (by decide) fun _ K => ?_
      refine wr_gn K rfl rfl rfl (by decide) fun _ K => ?_
      refine wr_gn K rfl rfl rfl (by decide) fun _ K => ?_
      refine wr_gn K rfl rfl rfl (by decide) fun _ K => ?_
      refine wr_op K (os_pick rfl rfl rfl) (by decide) fun _ K => ?_
      refine wr_nil ?_
      show W _ _ _ _ _ _ _
      refine w_cond (t := true) (K.opd rfl) (fun _ => ?_) (fun h => by cases h)
      refine w_seq ?_
      refine w_region ?_
      refine wr_op K (os_assign rfl) (by decide) fun _ K => ?_
      refine wr_nil ?_
      show W _ _ _ _ _ _ _
      refine w_ret ?_
      refine ⟨.inr rfl, _, res_tmp K rfl, ?_, M.qt⟩
      refine congrArg AV.bool ?_
      cases hb : samePs ps ps' with
      | false => simp [sameG, hb]
      | true =>
        exfalso
        have := samePs_len hb
        simp [this] at e23
    | false =>
      refine wr_gy K rfl rfl (os_fieldAddr fPg2 rfl) (by decide) fun _ K => ?_
      refine wr_gy K rfl rfl (os_load rfl (M.load (k := 1) rfl (part_agg tkN rfl))) (by decide) fun _ K => ?_
      refine wr_gy K rfl rfl (os_fieldAddr fPg2 rfl) (by decide) fun _ K => ?_
      refine wr_gy K rfl rfl (os_load rfl (M.load (k := 0) rfl (part_agg tkN rfl))) (by decide) fun _ K => ?_
      obtain ⟨v28, st28, ev28, rfl, q28⟩ := ref_same (G := envK3) rfl _ _ _ M.fresh _ (Qt.refl M.fresh) _ _ (hb0.mono M.rows) (hb1.mono M.rows)
      refine wr_gy K rfl rfl (os_call rfl ev28) (by decide) fun _ K => ?_
      replace M := M.quiet q28
      refine wr_gy K rfl rfl (os_not rfl) (by decide) fun _ K => ?_
      refine wr_op K (os_pick rfl rfl rfl) (by decide) fun _ K => ?_
      refine wr_nil ?_
      show W _ _ _ _ _ _ _
      refine w_cond (K.opd rfl) (fun h => ?_) (fun h => ?_)
      · refine w_seq ?_
        refine w_region ?_
        refine wr_op K (os_assign rfl) (by decide) fun _ K => ?_
        refine wr_nil ?_
        show W _ _ _ _ _ _ _
        refine w_ret ?_
        refine ⟨.inr rfl, _, res_tmp K rfl, ?_, M.qt⟩
        exact congrArg AV.bool (by
          have h := (show (!sameN mn mn') = true from h)
          simp at h
          simp [sameG, h])
      · have h := (show (!sameN mn mn') = false from h)
        simp at h e14 e23
        have hl : ps.length = ps'.length := by omega
        have hla : (ps.length : Int) ≤ 9223372036854775807 := hp0.bnd
        have hh : sameG ⟨ds, ps, mn⟩ ⟨ds', ps', mn'⟩ = samePs ps ps' := by simp [sameG, h, e14]
        refine w_skip ?_
        show W _ _ _ _ _ _ _
        refine w_seq ?_
        refine w_seq ?_
        refine w_region ?_
        refine wr_op K (os_assign rfl) (by decide) fun _ K => ?_
        refine wr_nil ?_
        show W _ _ _ _ _ _ _
        refine w_block ?_
        refine w_loop (fun m T st2 => ∃ i, i ≤ ps.length ∧ m = ps.length - i ∧ KnT [(5, .int .i64 (i : Int)), (2, .ptr c2 0 0), (3, .ptr c3 0 0)] T ∧ Mem st.h.get st.n [] st2 [(c3, 0, [kd', kp', .str op', .str nm', .int .i64 n', .int .i64 a', kk']), (c2, 0, [kd, kp, .str op, .str nm, .int .i64 n, .int .i64 a, kk])] ∧ samePs ps ps' = samePs (ps.drop i) (ps'.drop i)) (fun m T st2 hI => ?_) (ps.length - 0) _ _ ⟨0, Nat.zero_le _, rfl, .cons (K _ _ rfl) (.cons (K _ _ rfl) (.cons (K _ _ rfl) .nil)), M, rfl⟩
        obtain ⟨i, hi, hm, K, M, hsame⟩ := hI
        refine w_seq ?_
        refine w_seq ?_
        refine w_region ?_
        refine wr_op K (os_move rfl) (by decide) fun _ K => ?_
        refine wr_op K (os_fieldAddr fPg1 rfl) (by decide) fun _ K => ?_
        refine wr_load (k := 1) K M rfl rfl (part_one tkPds rfl) (by decide) fun _ K => ?_
        refine wr_op K (os_lenL uPds rfl rfl hp0.len) (by decide) fun _ K => ?_
        refine wr_op K (os_lss rfl rfl) (by decide) fun _ K => ?_
        refine wr_nil ?_
        show W _ _ _ _ _ _ _
        refine w_cond (K.opd rfl) (fun h => ?_) (fun h => ?_)
        · have hlt0 : i < ps.length := by
            have : (i : Int) < ps.length := of_decide_eq_true h
            omega
          have hlt1 : i < ps'.length := hl ▸ hlt0
          obtain ⟨⟨pn, pp, b0, pa⟩, hd0'⟩ : ∃ k, ps[i]? = some k := ⟨_, List.getElem?_eq_getElem hlt0⟩
          obtain ⟨⟨pn', pp', b1, pa'⟩, hd1'⟩ : ∃ k, ps'[i]? = some k := ⟨_, List.getElem?_eq_getElem hlt1⟩
          obtain ⟨c, m1, off, cs, hE0, ⟨kq, op0, nm0, n0, z0, kk0, rfl, hq0, hn0⟩, hL0, _, _⟩ := hp0.load hd0'
          obtain ⟨c', m', off', cs', hE1, ⟨kq', op1, nm1, n1, z1, kk1, rfl, hq1, hn1⟩, hL1, _, _⟩ := hp1.load hd1'
          have hstep := samePs_step hd0' hd1'
          refine w_skip ?_
          show W _ _ _ _ _ _ _
          refine w_seq ?_
          refine w_block ?_
          refine w_seq ?_
          have M6 := M
          refine w_drawI (l := [(0, 0), (1, 0), (2, 0), (3, 0), (4, 0), (10, 0), (11, 0), (12, 0), (5, 0), (6, 1), (7, 0), (8, 0), (9, 1), (13, 0)]) (by kernel_rfl) ?_
          refine wd_op rfl K (os_fieldAddr fPg1 rfl) rfl (by decide) fun _ K => ?_
          refine wd_op rfl K (os_load rfl (M.load (k := 1) rfl (part_one tkPds rfl))) rfl (by decide) fun _ K => ?_
          refine wd_op rfl K (os_move rfl) rfl (by decide) fun _ K => ?_
          refine wd_op rfl K (os_indexAddr ePds (congrArg some hE0) rfl hlt0) rfl (by decide) fun _ K => ?_
          refine wd_op rfl K (os_load rfl (M.load0 hL0)) rfl (by decide) fun _ K => ?_
          refine wd_alloc rfl K M zPd (by decide) fun c6 _ _ K M => ?_
          refine wd_alloc rfl K M zPd (by decide) fun c7 _ _ K M => ?_
          refine wd_store (k := 1) rfl K M rfl rfl rfl szPd rfl (cell8 hq0.cell (cellN hn0)) rfl fun _ M => ?_
          refine wd_op rfl K (os_fieldAddr fPg1 rfl) rfl (by decide) fun _ K => ?_
          refine wd_load1 rfl K rfl (M.load (k := 2) rfl (part_one tkPds rfl)) (M6.load (k := 0) rfl (part_one tkPds rfl)) (eqS hp1.len) rfl (by decide) fun _ K => ?_
          refine wd_op rfl K (os_move rfl) rfl (by decide) fun _ K => ?_
          refine wd_op rfl K (os_indexAddr ePds (congrArg some hE1) rfl hlt1) rfl (by decide) fun _ K => ?_
          refine wd_load1 rfl K rfl (M.load0 hL1) (M6.load0 hL1) (eq8 hq1.len (lenN hn1)) rfl (by decide) fun _ K => ?_
          refine wd_store (k := 0) rfl K M rfl rfl rfl szPd rfl (cell8 hq1.cell (cellN hn1)) rfl fun _ M => ?_
          refine wd_nil ?_
          show W _ _ _ _ _ _ _
          refine w_seq ?_
          refine w_region ?_
          refine wr_op K (os_fieldAddr fPd0 rfl) (by decide) fun _ K => ?_
          refine wr_load (k := 1) K M rfl rfl (part_one tkStr rfl) (by decide) fun _ K => ?_
          refine wr_op K (os_fieldAddr fPd0 rfl) (by decide) fun _ K => ?_
          refine wr_load (k := 0) K M rfl rfl (part_one tkStr rfl) (by decide) fun _ K => ?_
          refine wr_op K (os_neS rfl rfl) (by decide) fun _ K => ?_
          refine wr_opb K (os_move rfl) (by decide) fun b53 _ e53 K => ?_
          cases b53 with
          | true =>
            refine wr_gn K rfl rfl rfl (by decide) fun _ K => ?_
            refine wr_gn K rfl rfl rfl (by decide) fun _ K => ?_
            refine wr_gn K rfl rfl rfl (by decide) fun _ K => ?_
            refine wr_gn K rfl rfl rfl (by decide) fun _ K => ?_
            refine wr_gn K rfl rfl rfl (by decide) fun _ K => ?_
            refine wr_gn K rfl rfl rfl (by decide) fun _ K => ?_
            refine wr_op K (os_pick rfl rfl rfl) (by decide) fun _ K => ?_
            refine wr_op K (os_move rfl) (by decide) fun _ K => ?_
            refine wr_gn K rfl rfl rfl (by decide) fun _ K => ?_
            refine wr_gn K rfl rfl rfl (by decide) fun _ K => ?_
            refine wr_gn K rfl rfl rfl (by decide) fun _ K => ?_
            refine wr_gn K rfl rfl rfl (by decide) fun _ K => ?_
            refine wr_gn K rfl rfl rfl (by decide) fun _ K => ?_
            refine wr_gn K rfl rfl rfl (by decide) fun _ K => ?_
            refine wr_op K (os_pick rfl rfl rfl) (by decide) fun _ K => ?_
            refine wr_nil ?_
            show W _ _ _ _ _ _ _
            refine w_cond (t := true) (K.opd rfl) (fun _ => ?_) (fun h => by cases h)
            refine w_seq ?_
            refine w_region ?_
            refine wr_op K (os_assign rfl) (by decide) fun _ K => ?_
            refine wr_nil ?_
            show W _ _ _ _ _ _ _
            refine w_ret ?_
            refine ⟨.inr rfl, _, res_tmp K rfl, ?_, M.qt⟩
            refine congrArg AV.bool (hh.trans ?_).symm
            rw [hsame, hstep, show sameP _ _ = false by simp at e53; simp [sameP, e53], Bool.false_and]
          | false =>
            refine wr_gy K rfl rfl (os_fieldAddr fPd1 rfl) (by decide) fun _ K => ?_
            refine wr_gy K rfl rfl (os_load rfl (M.load (k := 1) rfl (part_one tkDcs rfl))) (by decide) fun _ K => ?_
            refine wr_gy K rfl rfl (os_fieldAddr fPd1 rfl) (by decide) fun _ K => ?_
            refine wr_gy K rfl rfl (os_load rfl (M.load (k := 0) rfl (part_one tkDcs rfl))) (by decide) fun _ K => ?_
            obtain ⟨v58, st58, ev58, rfl, q58⟩ := refDecls_ev (G := envK3) rfl M.fresh (M.rdds hq0) (M.rdds hq1)
            refine wr_gy K rfl rfl (os_call rfl ev58) (by decide) fun _ K => ?_
            replace M := M.quiet q58
            refine wr_gy K rfl rfl (os_not rfl) (by decide) fun _ K => ?_
            refine wr_op K (os_pick rfl rfl rfl) (by decide) fun _ K => ?_
            refine wr_opb K (os_move rfl) (by decide) fun b61 _ e61 K => ?_
            cases b61 with
            | true =>
              refine wr_gn K rfl rfl rfl (by decide) fun _ K => ?_
              refine wr_gn K rfl rfl rfl (by decide) fun _ K => ?_
              refine wr_gn K rfl rfl rfl (by decide) fun _ K => ?_
              refine wr_gn K rfl rfl rfl (by decide) fun _ K => ?_
              refine wr_gn K rfl rfl rfl (by decide) fun _ K => ?_
              refine wr_gn K rfl rfl rfl (by decide) fun _ K => ?_
              refine wr_op K (os_pick rfl rfl rfl) (by decide) fun _ K => ?_
              refine wr_nil ?_
              show W _ _ _ _ _ _ _
              refine w_cond (t := true) (K.opd rfl) (fun _ => ?_) (fun h => by cases h)
              refine w_seq ?_
              refine w_region ?_
              refine wr_op K (os_assign rfl) (by decide) fun _ K => ?_
              refine wr_nil ?_
              show W _ _ _ _ _ _ _
              refine w_ret ?_
              refine ⟨.inr rfl, _, res_tmp K rfl, ?_, M.qt⟩
              refine congrArg AV.bool (hh.trans ?_).symm
              rw [hsame, hstep, show sameP _ _ = false by simp at e61; simp [sameP, e61], Bool.false_and]
            | false =>
              refine wr_gy K rfl rfl (os_fieldAddr fPd2 rfl) (by decide) fun _ K => ?_
              refine wr_gy K rfl rfl (os_load rfl (M.load (k := 1) rfl (part_agg tkN rfl))) (by decide) fun _ K => ?_
              refine wr_gy K rfl rfl (os_fieldAddr fPd2 rfl) (by decide) fun _ K => ?_
              refine wr_gy K rfl rfl (os_load rfl (M.load (k := 0) rfl (part_agg tkN rfl))) (by decide) fun _ K => ?_
              obtain ⟨v66, st66, ev66, rfl, q66⟩ := ref_same (G := envK3) rfl _ _ _ M.fresh _ (Qt.refl M.fresh) _ _ (hn0.mono M.rows) (hn1.mono M.rows)
              refine wr_gy K rfl rfl (os_call rfl ev66) (by decide) fun _ K => ?_
              replace M := M.quiet q66
              refine wr_gy K rfl rfl (os_not rfl) (by decide) fun _ K => ?_
              refine wr_op K (os_pick rfl rfl rfl) (by decide) fun _ K => ?_
              refine wr_nil ?_
              show W _ _ _ _ _ _ _
              refine w_cond (K.opd rfl) (fun h => ?_) (fun h => ?_)
              · refine w_seq ?_
                refine w_region ?_
                refine wr_op K (os_assign rfl) (by decide) fun _ K => ?_
                refine wr_nil ?_
                show W _ _ _ _ _ _ _
                refine w_ret ?_
                refine ⟨.inr rfl, _, res_tmp K rfl, ?_, M.qt⟩
                refine congrArg AV.bool (hh.trans ?_).symm
                rw [hsame, hstep, show sameP _ _ = false by
                  have h := (show (!sameN b0 b1) = true from h)
                  simp at h
                  simp [sameP, h], Bool.false_and]
              · refine w_skip ?_
                show W _ _ _ _ _ _ _
                refine w_region ?_
                refine wr_op K (os_move rfl) (by decide) fun _ K => ?_
                refine wr_op K (os_add rfl rfl (by omega) (by omega)) (by decide) fun _ K => ?_
                refine wr_op K (os_assign rfl) (by decide) fun _ K => ?_
                refine wr_nil ?_
                refine ⟨ps.length - (i + 1), by omega, i + 1, hlt0, rfl, .cons (K _ _ rfl) (.cons (K _ _ rfl) (.cons (K _ _ rfl) .nil)), M.less (.cons _ (.cons _ (.refl _))), ?_⟩
                have h := (show (!sameN b0 b1) = false from h)
                simp at h e53 e61
                rw [hsame, hstep, show sameP _ _ = true by simp [sameP, h, e53, e61], Bool.true_and]
        · refine w_exit ?_
          show W _ _ _ _ _ _ _
          refine w_seq ?_
          refine w_region ?_
          refine wr_op K (os_assign rfl) (by decide) fun _ K => ?_
          refine wr_nil ?_
          show W _ _ _ _ _ _ _
          refine w_ret ?_
          refine ⟨.inr rfl, _, res_tmp K rfl, ?_, M.qt⟩
          refine congrArg AV.bool (hh.trans ?_).symm
          have hge : i = ps.length := by
            have : ¬ (i : Int) < ps.length := of_decide_eq_false h
            omega
          rw [hsame, List.drop_eq_nil_of_le (by omega), List.drop_eq_nil_of_le (by omega)]
          rfl
end Go.Proofs.Ytmjnbdkjekdkgaa
