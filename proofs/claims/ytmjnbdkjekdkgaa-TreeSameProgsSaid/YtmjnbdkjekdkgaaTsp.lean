/-
  TreeSameProgs, by its parts: the program's answer.
-/
import Derived.Test.YtmjnbdkjekdkgaaRfP
import Derived.Test.YtmjnbdkjekdkgaaTSm
namespace Go.Proofs.Ytmjnbdkjekdkgaa
open Go Go.RowKit
set_option linter.unusedVariables false
set_option maxRecDepth 100000

theorem eq7 {op nm : List Nat} {n a : Int} {kd kp kk : AV} {m0 m1 m2 : Nat} (h0 : slLen kd = some m0) (h1 : slLen kp = some m1) (h2 : slLen kk = some m2) : eqV (.agg [kd, kp, .str op, .str nm, .int .i64 n, .int .i64 a, kk]) (.agg [kd, kp, .str op, .str nm, .int .i64 n, .int .i64 a, kk]) = true := by
  show bif' (eqCell kd kd) (bif' (eqCell kp kp) (bif' (eqT op op) (bif' (eqT nm nm) (bif' (bif' (eqK .i64 .i64) (eqI n n) false) (bif' (bif' (eqK .i64 .i64) (eqI a a) false) (bif' (eqCell kk kk) true false) false) false) false) false) false) false = true
  rw [eqSc h0, eqSc h1, eqSc h2, eqT_eq, eqT_eq, eqI_dec, eqI_dec]
  simp [bif', eqK]
theorem sameDs_self (l : List Dc) : sameDs l l = true := by
  induction l with
  | nil => rfl
  | cons a l ih => rw [sameDs, ih]; simp [sameD]
theorem samePs_self (l : List Pd) : samePs l l = true := by
  induction l with
  | nil => rfl
  | cons a l ih => rw [samePs, ih]; simp [sameP, sameDs_self, sameN_self]
theorem sameG_at (ds : List Dc) (ps : List Pd) (op name : List Nat) (n a a' : Int) (kids : List Nd) : sameG ⟨ds, ps, .mk op name n a kids⟩ ⟨ds, ps, .mk op name n a' kids⟩ = true := by
  simp [sameG, sameDs_self, samePs_self, sameN_at]
theorem treeSameProgs_ev {p q : Pg} {st : St} {cs ct : List AV} (hf : Fresh st) (hr : RdG st.h.get p cs) (hr' : RdG st.h.get q ct) (z : Int) : ∃ v st', Ev Try.prog envK3 4 [.agg cs, .agg ct, .int .i64 z] st v st' ∧ v = .bool true := by
  obtain ⟨ds, ps, ⟨o0, s0, m0, z0, l0⟩⟩ := p
  obtain ⟨ds', ps', ⟨o1, s1, m1, z1, l1⟩⟩ := q
  obtain ⟨kd, kp, op, nm, n, a, kk, rfl, hd0, hp0, hb0⟩ := hr
  obtain ⟨kd', kp', op', nm', n', a', kk', rfl, hd1, hp1, hb1⟩ := hr'
  obtain ⟨_, ee, _⟩ := hb0.open_ tkN
  obtain ⟨_, ee', _⟩ := hb1.open_ tkN
  injection ee with x1 x; injection x with x2 x; injection x with x3 x; injection x with x4 x
  injection x1 with x1; injection x2 with x2; injection x3 with x30 x3; injection x4 with x40 x4
  subst x1 x2 x3 x4
  injection ee' with x1 x; injection x with x2 x; injection x with x3 x; injection x with x4 x
  injection x1 with x1; injection x2 with x2; injection x3 with x30 x3; injection x4 with x40 x4
  subst x1 x2 x3 x4
  have hr : RdG st.h.get ⟨ds, ps, .mk op nm n a l0⟩ [kd, kp, .str op, .str nm, .int .i64 n, .int .i64 a, kk] := ⟨_, _, _, _, _, _, _, rfl, hd0, hp0, hb0⟩
  have hr' : RdG st.h.get ⟨ds', ps', .mk op' nm' n' a' l1⟩ [kd', kp', .str op', .str nm', .int .i64 n', .int .i64 a', kk'] := ⟨_, _, _, _, _, _, _, rfl, hd1, hp1, hb1⟩
  have hrx : RdG st.h.get ⟨ds, ps, .mk op nm n z l0⟩ [kd, kp, .str op, .str nm, .int .i64 n, .int .i64 z, kk] := ⟨_, _, _, _, _, _, _, rfl, hd0, hp0, hb0.reat z⟩
  have hk8 : ∀ st, Ev Try.prog envK3 8 [] st (.bool true) st := fun st => ⟨0, 1, rfl⟩
  refine ev_fn rfl Try.func4 rfl Try.ntmps4 rfl (by decide) (by simp) fun T hT => ?_
  have K : KnT [(0, _), (1, _), (2, _)] T := (.cons (hT 0) (.cons (hT 1) (.cons (hT 2) .nil)))
  have M := Mem.start hf
  refine w_seq ?_
  refine w_region ?_
  refine wr_box K M rfl (cell7 hd0.cell hp0.cell (cellN hb0)) (by decide) fun c3 _ _ K M => ?_
  refine wr_box K M rfl (cell7 hd1.cell hp1.cell (cellN hb1)) (by decide) fun c4 _ _ K M => ?_
  refine wr_op K (os_assign rfl) (by decide) fun _ K => ?_
  refine wr_nil ?_
  show W _ _ _ _ _ _ _
  refine w_seq ?_
  refine w_seq ?_
  refine w_region ?_
  refine wr_op K (os_fieldAddr fPg0 rfl) (by decide) fun _ K => ?_
  refine wr_load (k := 1) K M rfl rfl (part_one tkDcs rfl) (by decide) fun _ K => ?_
  refine wr_op K (os_lenL uDcs rfl rfl hd0.len) (by decide) fun _ K => ?_
  refine wr_op K (os_gtr rfl rfl) (by decide) fun _ K => ?_
  refine wr_opb K (os_move rfl) (by decide) fun b14 _ e14 K => ?_
  cases b14 with
  | true =>
    refine wr_gn K rfl rfl rfl (by decide) fun _ K => ?_
    refine wr_gn K rfl rfl rfl (by decide) fun _ K => ?_
    refine wr_gn K rfl rfl rfl (by decide) fun _ K => ?_
    refine wr_gn K rfl rfl rfl (by decide) fun _ K => ?_
    refine wr_op K (os_pick rfl rfl rfl) (by decide) fun _ K => ?_
    refine wr_op K (os_move rfl) (by decide) fun _ K => ?_
    refine wr_gn K rfl rfl rfl (by decide) fun _ K => ?_
    refine wr_gn K rfl rfl rfl (by decide) fun _ K => ?_
    refine wr_gn K rfl rfl rfl (by decide) fun _ K => ?_
    refine wr_gn K rfl rfl rfl (by decide) fun _ K => ?_
    refine wr_op K (os_pick rfl rfl rfl) (by decide) fun _ K => ?_
    refine wr_op K (os_move rfl) (by decide) fun _ K => ?_
    refine wr_gn K rfl rfl rfl (by decide) fun _ K => ?_
    refine wr_gn K rfl rfl rfl (by decide) fun _ K => ?_
    refine wr_gn K rfl rfl rfl (by decide) fun _ K => ?_
    refine wr_gn K rfl rfl rfl (by decide) fun _ K => ?_
    refine wr_op K (os_pick rfl rfl rfl) (by decide) fun _ K => ?_
    refine wr_op K (os_move rfl) (by decide) fun _ K => ?_
    refine wr_gn K rfl rfl rfl (by decide) fun _ K => ?_
    refine wr_gn K rfl rfl rfl (by decide) fun _ K => ?_
    refine wr_gn K rfl rfl rfl (by decide) fun _ K => ?_
    refine wr_gn K rfl rfl rfl (by decide) fun _ K => ?_
    refine wr_op K (os_pick rfl rfl rfl) (by decide) fun _ K => ?_
    refine wr_op K (os_move rfl) (by decide) fun _ K => ?_
    refine wr_gn K rfl rfl rfl (by decide) fun _ K => ?_
    refine wr_gn K rfl rfl rfl (by decide) fun _ K => ?_
    refine wr_gn K rfl rfl rfl (by decide) fun _ K => ?_
    refine wr_gn K rfl rfl rfl (by decide) fun _ K => ?_
    refine wr_op K (os_pick rfl rfl rfl) (by decide) fun _ K => ?_
    refine wr_nil ?_
    show W _ _ _ _ _ _ _
    refine w_cond (t := true) (K.opd rfl) (fun _ => ?_) (fun h => by cases h)
    refine w_seq ?_
    refine w_region ?_
    refine wr_op K (os_assign rfl) (by decide) fun _ K => ?_
    refine wr_nil ?_
    show W _ _ _ _ _ _ _
    refine w_ret ?_
    exact ⟨.inr rfl, _, res_tmp K rfl, rfl⟩
  | false =>
    refine wr_gy K rfl rfl (os_fieldAddr fPg0 rfl) (by decide) fun _ K => ?_
    refine wr_gy K rfl rfl (os_load rfl (M.load (k := 0) rfl (part_one tkDcs rfl))) (by decide) fun _ K => ?_
    refine wr_gy K rfl rfl (os_lenL uDcs rfl rfl hd1.len) (by decide) fun _ K => ?_
    refine wr_gy K rfl rfl (os_gtr rfl rfl) (by decide) fun _ K => ?_
    refine wr_op K (os_pick rfl rfl rfl) (by decide) fun _ K => ?_
    refine wr_opb K (os_move rfl) (by decide) fun b20 _ e20 K => ?_
    cases b20 with
    | true =>
      refine wr_gn K rfl rfl rfl (by decide) fun _ K => ?_
      refine wr_gn K rfl rfl rfl (by decide) fun _ K => ?_
      refine wr_gn K rfl rfl rfl (by decide) fun _ K => ?_
      refine wr_gn K rfl rfl rfl (by decide) fun _ K => ?_
      refine wr_op K (os_pick rfl rfl rfl) (by decide) fun _ K => ?_
      refine wr_op K (os_move rfl) (by decide) fun _ K => ?_
      refine wr_gn K rfl rfl rfl (by decide) fun _ K => ?_
      refine wr_gn K rfl rfl rfl (by decide) fun _ K => ?_
      refine wr_gn K rfl rfl rfl (by decide) fun _ K => ?_
      refine wr_gn K rfl rfl rfl (by decide) fun _ K => ?_
      refine wr_op K (os_pick rfl rfl rfl) (by decide) fun _ K => ?_
      refine wr_op K (os_move rfl) (by decide) fun _ K => ?_
      refine wr_gn K rfl rfl rfl (by decide) fun _ K => ?_
      refine wr_gn K rfl rfl rfl (by decide) fun _ K => ?_
      refine wr_gn K rfl rfl rfl (by decide) fun _ K => ?_
      refine wr_gn K rfl rfl rfl (by decide) fun _ K => ?_
      refine wr_op K (os_pick rfl rfl rfl) (by decide) fun _ K => ?_
      refine wr_op K (os_move rfl) (by decide) fun _ K => ?_
      refine wr_gn K rfl rfl rfl (by decide) fun _ K => ?_
      refine wr_gn K rfl rfl rfl (by decide) fun _ K => ?_
      refine wr_gn K rfl rfl rfl (by decide) fun _ K => ?_
      refine wr_gn K rfl rfl rfl (by decide) fun _ K => ?_
      refine wr_op K (os_pick rfl rfl rfl) (by decide) fun _ K => ?_
      refine wr_nil ?_
      show W _ _ _ _ _ _ _
      refine w_cond (t := true) (K.opd rfl) (fun _ => ?_) (fun h => by cases h)
      refine w_seq ?_
      refine w_region ?_
      refine wr_op K (os_assign rfl) (by decide) fun _ K => ?_
      refine wr_nil ?_
      show W _ _ _ _ _ _ _
      refine w_ret ?_
      exact ⟨.inr rfl, _, res_tmp K rfl, rfl⟩
    | false =>
      refine wr_gy K rfl rfl (os_fieldAddr fPg1 rfl) (by decide) fun _ K => ?_
      refine wr_gy K rfl rfl (os_load rfl (M.load (k := 1) rfl (part_one tkPds rfl))) (by decide) fun _ K => ?_
      refine wr_gy K rfl rfl (os_lenL uPds rfl rfl hp0.len) (by decide) fun _ K => ?_
      refine wr_gy K rfl rfl (os_gtr rfl rfl) (by decide) fun _ K => ?_
      refine wr_op K (os_pick rfl rfl rfl) (by decide) fun _ K => ?_
      refine wr_opb K (os_move rfl) (by decide) fun b26 _ e26 K => ?_
      cases b26 with
      | true =>
        refine wr_gn K rfl rfl rfl (by decide) fun _ K => ?_
        refine wr_gn K rfl rfl rfl (by decide) fun _ K => ?_
        refine wr_gn K rfl rfl rfl (by decide) fun _ K => ?_
        refine wr_gn K rfl rfl rfl (by decide) fun _ K => ?_
        refine wr_op K (os_pick rfl rfl rfl) (by decide) fun _ K => ?_
        refine wr_op K (os_move rfl) (by decide) fun _ K => ?_
        refine wr_gn K rfl rfl rfl (by decide) fun _ K => ?_
        refine wr_gn K rfl rfl rfl (by decide) fun _ K => ?_
        refine wr_gn K rfl rfl rfl (by decide) fun _ K => ?_
        refine wr_gn K rfl rfl rfl (by decide) fun _ K => ?_
        refine wr_op K (os_pick rfl rfl rfl) (by decide) fun _ K => ?_
        refine wr_op K (os_move rfl) (by decide) fun _ K => ?_
        refine wr_gn K rfl rfl rfl (by decide) fun _ K => ?_
        refine wr_gn K rfl rfl rfl (by decide) fun _ K => ?_
        refine wr_gn K rfl rfl rfl (by decide) fun _ K => ?_
        refine wr_gn K rfl rfl rfl (by decide) fun _ K => ?_
        refine wr_op K (os_pick rfl rfl rfl) (by decide) fun _ K => ?_
        refine wr_nil ?_
        show W _ _ _ _ _ _ _
        refine w_cond (t := true) (K.opd rfl) (fun _ => ?_) (fun h => by cases h)
        refine w_seq ?_
        refine w_region ?_
        refine wr_op K (os_assign rfl) (by decide) fun _ K => ?_
        refine wr_nil ?_
        show W _ _ _ _ _ _ _
        refine w_ret ?_
        exact ⟨.inr rfl, _, res_tmp K rfl, rfl⟩
      | false =>
        refine wr_gy K rfl rfl (os_fieldAddr fPg1 rfl) (by decide) fun _ K => ?_
        refine wr_gy K rfl rfl (os_load rfl (M.load (k := 0) rfl (part_one tkPds rfl))) (by decide) fun _ K => ?_
        refine wr_gy K rfl rfl (os_lenL uPds rfl rfl hp1.len) (by decide) fun _ K => ?_
        refine wr_gy K rfl rfl (os_gtr rfl rfl) (by decide) fun _ K => ?_
        refine wr_op K (os_pick rfl rfl rfl) (by decide) fun _ K => ?_
        refine wr_opb K (os_move rfl) (by decide) fun b32 _ e32 K => ?_
        cases b32 with
        | true =>
          refine wr_gn K rfl rfl rfl (by decide) fun _ K => ?_
          refine wr_gn K rfl rfl rfl (by decide) fun _ K => ?_
          refine wr_gn K rfl rfl rfl (by decide) fun _ K => ?_
          refine wr_gn K rfl rfl rfl (by decide) fun _ K => ?_
          refine wr_op K (os_pick rfl rfl rfl) (by decide) fun _ K => ?_
          refine wr_op K (os_move rfl) (by decide) fun _ K => ?_
          refine wr_gn K rfl rfl rfl (by decide) fun _ K => ?_
          refine wr_gn K rfl rfl rfl (by decide) fun _ K => ?_
          refine wr_gn K rfl rfl rfl (by decide) fun _ K => ?_
          refine wr_gn K rfl rfl rfl (by decide) fun _ K => ?_
          refine wr_op K (os_pick rfl rfl rfl) (by decide) fun _ K => ?_
          refine wr_nil ?_
          show W _ _ _ _ _ _ _
          refine w_cond (t := true) (K.opd rfl) (fun _ => ?_) (fun h => by cases h)
          refine w_seq ?_
          refine w_region ?_
          refine wr_op K (os_assign rfl) (by decide) fun _ K => ?_
          refine wr_nil ?_
          show W _ _ _ _ _ _ _
          refine w_ret ?_
          exact ⟨.inr rfl, _, res_tmp K rfl, rfl⟩
        | false =>
          refine wr_gy K rfl rfl (os_fieldAddr fPg2 rfl) (by decide) fun _ K => ?_
          refine wr_gy K rfl rfl (os_load rfl (M.load (k := 1) rfl (part_agg tkN rfl))) (by decide) fun _ K => ?_
          obtain ⟨v35, st35, ev35, z35, rfl, q35⟩ := fine_ev (G := envK3) rfl rfl rfl rfl rfl M.fresh (hb0.mono M.rows)
          refine wr_gy K rfl rfl (os_call rfl ev35) (by decide) fun _ K => ?_
          replace M := M.quiet q35
          refine wr_gy K rfl rfl (os_not rfl) (by decide) fun _ K => ?_
          refine wr_op K (os_pick rfl rfl rfl) (by decide) fun _ K => ?_
          refine wr_opb K (os_move rfl) (by decide) fun b38 _ e38 K => ?_
          cases b38 with
          | true =>
            refine wr_gn K rfl rfl rfl (by decide) fun _ K => ?_
            refine wr_gn K rfl rfl rfl (by decide) fun _ K => ?_
            refine wr_gn K rfl rfl rfl (by decide) fun _ K => ?_
            refine wr_gn K rfl rfl rfl (by decide) fun _ K => ?_
            refine wr_op K (os_pick rfl rfl rfl) (by decide) fun _ K => ?_
            refine wr_nil ?_
            show W _ _ _ _ _ _ _
            refine w_cond (t := true) (K.opd rfl) (fun _ => ?_) (fun h => by cases h)
            refine w_seq ?_
            refine w_region ?_
            refine wr_op K (os_assign rfl) (by decide) fun _ K => ?_
            refine wr_nil ?_
            show W _ _ _ _ _ _ _
            refine w_ret ?_
            exact ⟨.inr rfl, _, res_tmp K rfl, rfl⟩
          | false =>
            refine wr_gy K rfl rfl (os_fieldAddr fPg2 rfl) (by decide) fun _ K => ?_
            refine wr_gy K rfl rfl (os_load rfl (M.load (k := 0) rfl (part_agg tkN rfl))) (by decide) fun _ K => ?_
            obtain ⟨v41, st41, ev41, z41, rfl, q41⟩ := fine_ev (G := envK3) rfl rfl rfl rfl rfl M.fresh (hb1.mono M.rows)
            refine wr_gy K rfl rfl (os_call rfl ev41) (by decide) fun _ K => ?_
            replace M := M.quiet q41
            refine wr_gy K rfl rfl (os_not rfl) (by decide) fun _ K => ?_
            refine wr_op K (os_pick rfl rfl rfl) (by decide) fun _ K => ?_
            refine wr_nil ?_
            show W _ _ _ _ _ _ _
            refine w_cond (K.opd rfl) (fun h => ?_) (fun h => ?_)
            · refine w_seq ?_
              refine w_region ?_
              refine wr_op K (os_assign rfl) (by decide) fun _ K => ?_
              refine wr_nil ?_
              show W _ _ _ _ _ _ _
              refine w_ret ?_
              exact ⟨.inr rfl, _, res_tmp K rfl, rfl⟩
            · refine w_skip ?_
              show W _ _ _ _ _ _ _
              refine w_seq ?_
              refine w_seq ?_
              refine w_region ?_
              refine wr_op K (os_assign rfl) (by decide) fun _ K => ?_
              refine wr_nil ?_
              show W _ _ _ _ _ _ _
              refine w_block ?_
              refine w_loop (fun m T st2 => ∃ i, i ≤ ps.length ∧ m = ps.length - i ∧ KnT [(7, .int .i64 (i : Int)), (2, .int .i64 z), (3, .ptr c3 0 0), (4, .ptr c4 0 0)] T ∧ Mem st.h.get st.n [] st2 [(c4, 0, [kd', kp', .str op', .str nm', .int .i64 n', .int .i64 a', kk']), (c3, 0, [kd, kp, .str op, .str nm, .int .i64 n, .int .i64 a, kk])]) (fun m T st2 hI => ?_) (ps.length) _ _ ⟨0, Nat.zero_le _, rfl, ?_, M⟩
              rotate_left
              · exact .cons (K _ _ rfl) (.cons (K _ _ rfl) (.cons (K _ _ rfl) (.cons (K _ _ rfl) .nil)))
              obtain ⟨i, hi, hm, K, M⟩ := hI
              refine w_seq ?_
              refine w_seq ?_
              refine w_region ?_
              refine wr_op K (os_move rfl) (by decide) fun _ K => ?_
              refine wr_op K (os_fieldAddr fPg1 rfl) (by decide) fun _ K => ?_
              refine wr_load (k := 1) K M rfl rfl (part_one tkPds rfl) (by decide) fun _ K => ?_
              refine wr_op K (os_lenL uPds rfl rfl hp0.len) (by decide) fun _ K => ?_
              refine wr_op K (os_lss rfl rfl) (by decide) fun _ K => ?_
              refine wr_nil ?_
              show W _ _ _ _ _ _ _
              refine w_cond (K.opd rfl) (fun h => ?_) (fun h => ?_)
              · have hbb : (ps.length : Int) ≤ 9223372036854775807 := hp0.bnd
                have hlt0 : i < ps.length := by
                  have : (i : Int) < ps.length := of_decide_eq_true h
                  omega
                obtain ⟨⟨pn, pp, ⟨bo, bn, bv, ba, bk⟩, pa⟩, hdd⟩ : ∃ k, ps[i]? = some k := ⟨_, List.getElem?_eq_getElem hlt0⟩
                obtain ⟨c, m1, off, cs, hE0, hR, hL0, ⟨kq, hq0, hLp⟩, cb, hn0, hLb⟩ := hp0.load hdd
                refine w_skip ?_
                show W _ _ _ _ _ _ _
                refine w_seq ?_
                refine w_block ?_
                refine w_seq ?_
                refine w_region ?_
                refine wr_op K (os_fieldAddr fPg1 rfl) (by decide) fun _ K => ?_
                refine wr_load (k := 1) K M rfl rfl (part_one tkPds rfl) (by decide) fun _ K => ?_
                refine wr_op K (os_move rfl) (by decide) fun _ K => ?_
                refine wr_op K (os_indexAddr ePds (congrArg some hE0) rfl hlt0) (by decide) fun _ K => ?_
                refine wr_op K (os_fieldAddr fPd1 rfl) (by decide) fun _ K => ?_
                refine wr_op K (os_load rfl (M.load0 hLp)) (by decide) fun _ K => ?_
                refine wr_op K (os_lenL uDcs rfl rfl hq0.len) (by decide) fun _ K => ?_
                refine wr_op K (os_gtr rfl rfl) (by decide) fun _ K => ?_
                refine wr_opb K (os_move rfl) (by decide) fun b59 _ e59 K => ?_
                cases b59 with
                | true =>
                  refine wr_gn K rfl rfl rfl (by decide) fun _ K => ?_
                  refine wr_gn K rfl rfl rfl (by decide) fun _ K => ?_
                  refine wr_gn K rfl rfl rfl (by decide) fun _ K => ?_
                  refine wr_gn K rfl rfl rfl (by decide) fun _ K => ?_
                  refine wr_gn K rfl rfl rfl (by decide) fun _ K => ?_
                  refine wr_gn K rfl rfl rfl (by decide) fun _ K => ?_
                  refine wr_gn K rfl rfl rfl (by decide) fun _ K => ?_
                  refine wr_gn K rfl rfl rfl (by decide) fun _ K => ?_
                  refine wr_op K (os_pick rfl rfl rfl) (by decide) fun _ K => ?_
                  refine wr_nil ?_
                  show W _ _ _ _ _ _ _
                  refine w_cond (t := true) (K.opd rfl) (fun _ => ?_) (fun h => by cases h)
                  refine w_seq ?_
                  refine w_region ?_
                  refine wr_op K (os_assign rfl) (by decide) fun _ K => ?_
                  refine wr_nil ?_
                  show W _ _ _ _ _ _ _
                  refine w_ret ?_
                  exact ⟨.inr rfl, _, res_tmp K rfl, rfl⟩
                | false =>
                  refine wr_gy K rfl rfl (os_fieldAddr fPg1 rfl) (by decide) fun _ K => ?_
                  refine wr_gy K rfl rfl (os_load rfl (M.load (k := 1) rfl (part_one tkPds rfl))) (by decide) fun _ K => ?_
                  refine wr_gy K rfl rfl (os_move rfl) (by decide) fun _ K => ?_
                  refine wr_gy K rfl rfl (os_indexAddr ePds (congrArg some hE0) rfl hlt0) (by decide) fun _ K => ?_
                  refine wr_gy K rfl rfl (os_fieldAddr fPd2 rfl) (by decide) fun _ K => ?_
                  refine wr_gy K rfl rfl (os_load rfl (M.load0 hLb)) (by decide) fun _ K => ?_
                  obtain ⟨v66, st66, ev66, z66, rfl, q66⟩ := fine_ev (G := envK3) rfl rfl rfl rfl rfl M.fresh (hn0.mono M.rows)
                  refine wr_gy K rfl rfl (os_call rfl ev66) (by decide) fun _ K => ?_
                  replace M := M.quiet q66
                  refine wr_gy K rfl rfl (os_not rfl) (by decide) fun _ K => ?_
                  refine wr_op K (os_pick rfl rfl rfl) (by decide) fun _ K => ?_
                  refine wr_nil ?_
                  show W _ _ _ _ _ _ _
                  refine w_cond (K.opd rfl) (fun h => ?_) (fun h => ?_)
                  · refine w_seq ?_
                    refine w_region ?_
                    refine wr_op K (os_assign rfl) (by decide) fun _ K => ?_
                    refine wr_nil ?_
                    show W _ _ _ _ _ _ _
                    refine w_ret ?_
                    exact ⟨.inr rfl, _, res_tmp K rfl, rfl⟩
                  · refine w_skip ?_
                    show W _ _ _ _ _ _ _
                    refine w_region ?_
                    refine wr_op K (os_move rfl) (by decide) fun _ K => ?_
                    refine wr_op K (os_add rfl rfl (by omega) (by omega)) (by decide) fun _ K => ?_
                    refine wr_op K (os_assign rfl) (by decide) fun _ K => ?_
                    refine wr_nil ?_
                    refine ⟨ps.length - (i + 1), by omega, i + 1, hlt0, rfl, .cons (K _ _ rfl) (.cons (K _ _ rfl) (.cons (K _ _ rfl) (.cons (K _ _ rfl) .nil))), M.less (.refl _)⟩
              · refine w_exit ?_
                show W _ _ _ _ _ _ _
                refine w_seq ?_
                refine w_seq ?_
                refine w_region ?_
                refine wr_op K (os_assign rfl) (by decide) fun _ K => ?_
                refine wr_nil ?_
                show W _ _ _ _ _ _ _
                refine w_block ?_
                refine w_loop (fun m T st2 => ∃ i, i ≤ ps'.length ∧ m = ps'.length - i ∧ KnT [(8, .int .i64 (i : Int)), (2, .int .i64 z), (3, .ptr c3 0 0), (4, .ptr c4 0 0)] T ∧ Mem st.h.get st.n [] st2 [(c4, 0, [kd', kp', .str op', .str nm', .int .i64 n', .int .i64 a', kk']), (c3, 0, [kd, kp, .str op, .str nm, .int .i64 n, .int .i64 a, kk])]) (fun m T st2 hI => ?_) (ps'.length) _ _ ⟨0, Nat.zero_le _, rfl, ?_, M⟩
                rotate_left
                · exact .cons (K _ _ rfl) (.cons (K _ _ rfl) (.cons (K _ _ rfl) (.cons (K _ _ rfl) .nil)))
                obtain ⟨i, hi, hm, K, M⟩ := hI
                refine w_seq ?_
                refine w_seq ?_
                refine w_region ?_
                refine wr_op K (os_move rfl) (by decide) fun _ K => ?_
                refine wr_op K (os_fieldAddr fPg1 rfl) (by decide) fun _ K => ?_
                refine wr_load (k := 0) K M rfl rfl (part_one tkPds rfl) (by decide) fun _ K => ?_
                refine wr_op K (os_lenL uPds rfl rfl hp1.len) (by decide) fun _ K => ?_
                refine wr_op K (os_lss rfl rfl) (by decide) fun _ K => ?_
                refine wr_nil ?_
                show W _ _ _ _ _ _ _
                refine w_cond (K.opd rfl) (fun h => ?_) (fun h => ?_)
                · have hbb : (ps'.length : Int) ≤ 9223372036854775807 := hp1.bnd
                  have hlt1 : i < ps'.length := by
                    have : (i : Int) < ps'.length := of_decide_eq_true h
                    omega
                  obtain ⟨⟨pn, pp, ⟨bo, bn, bv, ba, bk⟩, pa⟩, hdd⟩ : ∃ k, ps'[i]? = some k := ⟨_, List.getElem?_eq_getElem hlt1⟩
                  obtain ⟨c, m1, off, cs, hE1, hR, hL0, ⟨kq, hq0, hLp⟩, cb, hn0, hLb⟩ := hp1.load hdd
                  refine w_skip ?_
                  show W _ _ _ _ _ _ _
                  refine w_seq ?_
                  refine w_block ?_
                  refine w_seq ?_
                  refine w_region ?_
                  refine wr_op K (os_fieldAddr fPg1 rfl) (by decide) fun _ K => ?_
                  refine wr_load (k := 0) K M rfl rfl (part_one tkPds rfl) (by decide) fun _ K => ?_
                  refine wr_op K (os_move rfl) (by decide) fun _ K => ?_
                  refine wr_op K (os_indexAddr ePds (congrArg some hE1) rfl hlt1) (by decide) fun _ K => ?_
                  refine wr_op K (os_fieldAddr fPd1 rfl) (by decide) fun _ K => ?_
                  refine wr_op K (os_load rfl (M.load0 hLp)) (by decide) fun _ K => ?_
                  refine wr_op K (os_lenL uDcs rfl rfl hq0.len) (by decide) fun _ K => ?_
                  refine wr_op K (os_gtr rfl rfl) (by decide) fun _ K => ?_
                  refine wr_opb K (os_move rfl) (by decide) fun b84 _ e84 K => ?_
                  cases b84 with
                  | true =>
                    refine wr_gn K rfl rfl rfl (by decide) fun _ K => ?_
                    refine wr_gn K rfl rfl rfl (by decide) fun _ K => ?_
                    refine wr_gn K rfl rfl rfl (by decide) fun _ K => ?_
                    refine wr_gn K rfl rfl rfl (by decide) fun _ K => ?_
                    refine wr_gn K rfl rfl rfl (by decide) fun _ K => ?_
                    refine wr_gn K rfl rfl rfl (by decide) fun _ K => ?_
                    refine wr_gn K rfl rfl rfl (by decide) fun _ K => ?_
                    refine wr_gn K rfl rfl rfl (by decide) fun _ K => ?_
                    refine wr_op K (os_pick rfl rfl rfl) (by decide) fun _ K => ?_
                    refine wr_nil ?_
                    show W _ _ _ _ _ _ _
                    refine w_cond (t := true) (K.opd rfl) (fun _ => ?_) (fun h => by cases h)
                    refine w_seq ?_
                    refine w_region ?_
                    refine wr_op K (os_assign rfl) (by decide) fun _ K => ?_
                    refine wr_nil ?_
                    show W _ _ _ _ _ _ _
                    refine w_ret ?_
                    exact ⟨.inr rfl, _, res_tmp K rfl, rfl⟩
                  | false =>
                    refine wr_gy K rfl rfl (os_fieldAddr fPg1 rfl) (by decide) fun _ K => ?_
                    refine wr_gy K rfl rfl (os_load rfl (M.load (k := 0) rfl (part_one tkPds rfl))) (by decide) fun _ K => ?_
                    refine wr_gy K rfl rfl (os_move rfl) (by decide) fun _ K => ?_
                    refine wr_gy K rfl rfl (os_indexAddr ePds (congrArg some hE1) rfl hlt1) (by decide) fun _ K => ?_
                    refine wr_gy K rfl rfl (os_fieldAddr fPd2 rfl) (by decide) fun _ K => ?_
                    refine wr_gy K rfl rfl (os_load rfl (M.load0 hLb)) (by decide) fun _ K => ?_
                    obtain ⟨v91, st91, ev91, z91, rfl, q91⟩ := fine_ev (G := envK3) rfl rfl rfl rfl rfl M.fresh (hn0.mono M.rows)
                    refine wr_gy K rfl rfl (os_call rfl ev91) (by decide) fun _ K => ?_
                    replace M := M.quiet q91
                    refine wr_gy K rfl rfl (os_not rfl) (by decide) fun _ K => ?_
                    refine wr_op K (os_pick rfl rfl rfl) (by decide) fun _ K => ?_
                    refine wr_nil ?_
                    show W _ _ _ _ _ _ _
                    refine w_cond (K.opd rfl) (fun h => ?_) (fun h => ?_)
                    · refine w_seq ?_
                      refine w_region ?_
                      refine wr_op K (os_assign rfl) (by decide) fun _ K => ?_
                      refine wr_nil ?_
                      show W _ _ _ _ _ _ _
                      refine w_ret ?_
                      exact ⟨.inr rfl, _, res_tmp K rfl, rfl⟩
                    · refine w_skip ?_
                      show W _ _ _ _ _ _ _
                      refine w_region ?_
                      refine wr_op K (os_move rfl) (by decide) fun _ K => ?_
                      refine wr_op K (os_add rfl rfl (by omega) (by omega)) (by decide) fun _ K => ?_
                      refine wr_op K (os_assign rfl) (by decide) fun _ K => ?_
                      refine wr_nil ?_
                      refine ⟨ps'.length - (i + 1), by omega, i + 1, hlt1, rfl, .cons (K _ _ rfl) (.cons (K _ _ rfl) (.cons (K _ _ rfl) (.cons (K _ _ rfl) .nil))), M.less (.refl _)⟩
                · refine w_exit ?_
                  show W _ _ _ _ _ _ _
                  refine w_seq ?_
                  refine w_region ?_
                  refine wr_load (k := 1) K M rfl rfl (part_agg tkPg rfl) (by decide) fun _ K => ?_
                  refine wr_alloc K M zPg (by decide) fun c9 _ _ K M => ?_
                  refine wr_store (k := 0) K M rfl rfl rfl szPg rfl (cell7 hd0.cell hp0.cell (cellN hb0)) rfl fun _ M => ?_
                  refine wr_nil ?_
                  show W _ _ _ _ _ _ _
                  refine w_seq ?_
                  refine w_region ?_
                  refine wr_op K (os_move rfl) (by decide) fun _ K => ?_
                  refine wr_op K (os_fieldAddr fPg2 rfl) (by decide) fun _ K => ?_
                  refine wr_op K (os_fieldAddr fN3 rfl) (by decide) fun _ K => ?_
                  refine wr_store (k := 0) K M rfl rfl rfl szInt rfl rfl rfl fun _ M => ?_
                  refine wr_nil ?_
                  show W _ _ _ _ _ _ _
                  refine w_seq ?_
                  have M5 := M
                  refine w_drawI (l := [(0, 0), (1, 0), (2, 0), (3, 1), (4, 1), (5, 0), (6, 0), (7, 0), (8, 0), (9, 0), (10, 0), (11, 0), (12, 0), (13, 0), (14, 0), (15, 0)]) (by kernel_rfl) ?_
                  refine wd_op rfl K (os_load rfl (M.load (k := 2) rfl (part_agg tkPg rfl))) rfl (by decide) fun _ K => ?_
                  refine wd_op rfl K (os_load rfl (M.load (k := 1) rfl (part_agg tkPg rfl))) rfl (by decide) fun _ K => ?_
                  obtain ⟨v100, st100, ev100, rfl, q100⟩ := sameProg_ev M.fresh (hr.mono M.rows) (hr'.mono M.rows)
                  refine wd_act rfl K (os_call rfl ev100) rfl (by decide) fun _ K => ?_
                  replace M := M.quiet q100
                  refine wd_load1 rfl K rfl (M.load (k := 2) rfl (part_agg tkPg rfl)) (M5.load (k := 2) rfl (part_agg tkPg rfl)) (eq7 hd0.len hp0.len (lenN hb0)) rfl (by decide) fun _ K => ?_
                  refine wd_load1 rfl K rfl (M.load (k := 1) rfl (part_agg tkPg rfl)) (M5.load (k := 1) rfl (part_agg tkPg rfl)) (eq7 hd1.len hp1.len (lenN hb1)) rfl (by decide) fun _ K => ?_
                  obtain ⟨v103, st103, ev103, rfl, q103⟩ := refProg_ev M.fresh (hr.mono M.rows) (hr'.mono M.rows)
                  refine wd_act rfl K (os_call rfl ev103) rfl (by decide) fun _ K => ?_
                  replace M := M.quiet q103
                  refine wd_op rfl K (os_eqB uBool rfl rfl) rfl (by decide) fun _ K => ?_
                  refine wd_opb rfl K (os_move rfl) rfl (by decide) fun b105 _ e105 K => ?_
                  cases b105 with
                  | true =>
                    refine wd_gy rfl K rfl rfl (os_load rfl (M.load (k := 2) rfl (part_agg tkPg rfl))) rfl (by decide) fun _ K => ?_
                    refine wd_gy rfl K rfl rfl (os_load rfl (M.load (k := 0) rfl (part_agg tkPg rfl))) rfl (by decide) fun _ K => ?_
                    obtain ⟨v108, st108, ev108, rfl, q108⟩ := sameProg_ev M.fresh (hr.mono M.rows) (hrx.mono M.rows)
                    refine wd_gya rfl K rfl rfl (os_call rfl ev108) rfl (by decide) fun _ K => ?_
                    replace M := M.quiet q108
                    refine wd_op rfl K (os_pick rfl rfl rfl) rfl (by decide) fun _ K => ?_
                    refine wd_opb rfl K (os_move rfl) rfl (by decide) fun b110 _ e110 K => ?_
                    cases b110 with
                    | true =>
                      have ev111 := hk8
                      refine wd_gya rfl K rfl rfl (os_call rfl (ev111 _)) rfl (by decide) fun _ K => ?_
                      refine wd_op rfl K (os_pick rfl rfl rfl) rfl (by decide) fun _ K => ?_
                      refine wd_op rfl K (os_assign rfl) rfl (by decide) fun _ K => ?_
                      refine wd_nil ?_
                      show W _ _ _ _ _ _ _
                      refine w_ret ?_
                      exact ⟨.inr rfl, _, res_tmp K rfl, rfl⟩
                    | false =>
                      refine wd_gn rfl K rfl rfl rfl (by decide) fun _ _ K => ?_
                      refine wd_op rfl K (os_pick rfl rfl rfl) rfl (by decide) fun _ K => ?_
                      refine wd_op rfl K (os_assign rfl) rfl (by decide) fun _ K => ?_
                      refine wd_nil ?_
                      show W _ _ _ _ _ _ _
                      refine w_ret ?_
                      refine ⟨.inr rfl, _, res_tmp K rfl, ?_⟩
                      exact absurd e110 (by rw [sameG_at]; decide)
                  | false =>
                    refine wd_gn rfl K rfl rfl rfl (by decide) fun _ _ K => ?_
                    refine wd_gn rfl K rfl rfl rfl (by decide) fun _ _ K => ?_
                    refine wd_gn rfl K rfl rfl rfl (by decide) fun _ _ K => ?_
                    refine wd_op rfl K (os_pick rfl rfl rfl) rfl (by decide) fun _ K => ?_
                    refine wd_op rfl K (os_move rfl) rfl (by decide) fun _ K => ?_
                    refine wd_gn rfl K rfl rfl rfl (by decide) fun _ _ K => ?_
                    refine wd_op rfl K (os_pick rfl rfl rfl) rfl (by decide) fun _ K => ?_
                    refine wd_op rfl K (os_assign rfl) rfl (by decide) fun _ K => ?_
                    refine wd_nil ?_
                    show W _ _ _ _ _ _ _
                    refine w_ret ?_
                    refine ⟨.inr rfl, _, res_tmp K rfl, ?_⟩
                    exact absurd e105 (by simp)
end Go.Proofs.Ytmjnbdkjekdkgaa
