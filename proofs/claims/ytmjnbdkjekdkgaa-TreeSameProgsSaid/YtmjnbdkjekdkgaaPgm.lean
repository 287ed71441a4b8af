/-
  Programs in the reckoner's memory; are two of them one: tree's answer.
-/
import Derived.Test.YtmjnbdkjekdkgaaPreds
import Derived.Test.YtmjnbdkjekdkgaaTSm
namespace Go.Proofs.Ytmjnbdkjekdkgaa
open Go Go.RowKit
set_option linter.unusedVariables false
set_option maxRecDepth 100000

/-- A program. -/
structure Pg where
  decls : List Dc
  preds : List Pd
  main : Nd
def sameG (a b : Pg) : Bool := sameDs a.decls b.decls && (samePs a.preds b.preds && sameN a.main b.main)
/-- It lies there. -/
def RdG (h : Hp) (p : Pg) (cs : List AV) : Prop := ∃ kd kp op nm n a kk, cs = [kd, kp, .str op, .str nm, .int .i64 n, .int .i64 a, kk] ∧ RdDs h p.decls kd ∧ RdPs h p.preds kp ∧ RdN h p.main [.str op, .str nm, .int .i64 n, .int .i64 a, kk]
theorem RdG.mono {h h' : Hp} (hr : RowLe h h') {p : Pg} {cs : List AV} (r : RdG h p cs) : RdG h' p cs := by
  obtain ⟨kd, kp, op, nm, n, a, kk, e, h1, h2, h3⟩ := r
  exact ⟨kd, kp, op, nm, n, a, kk, e, h1.mono hr, h2.mono hr, h3.mono hr⟩
theorem cell7 {op nm : List Nat} {n a : Int} {kd kp kk : AV} (h0 : isCell kd = true) (h1 : isCell kp = true) (h2 : isCell kk = true) : allL isCell (cellsA (.agg [kd, kp, .str op, .str nm, .int .i64 n, .int .i64 a, kk])) = true := by
  show bif' (isCell kd) (bif' (isCell kp) (bif' (isCell kk) true false) false) false = true
  rw [h0, h1, h2]
  rfl
theorem tkPg : tk Try.prog 32 = .agg 7 := by kernel_rfl
theorem fPg0 : fieldOff Try.prog 32 0 = some 0 := by kernel_rfl
theorem fPg1 : fieldOff Try.prog 32 1 = some 1 := by kernel_rfl
theorem fPg2 : fieldOff Try.prog 32 2 = some 2 := by kernel_rfl
theorem zPg : zeroOf Try.prog 32 = some [.nils, .nils, .str [], .str [], .int .i64 0, .int .i64 0, .nils] := by kernel_rfl
theorem szPg : sizeA Try.prog 32 = some 7 := by kernel_rfl
theorem sameProg_ev {st : St} (hf : Fresh st) {p q : Pg} {cs ct : List AV} (hr : RdG st.h.get p cs) (hr' : RdG st.h.get q ct) : ∃ v st', Ev Try.prog envK3 9 [.agg cs, .agg ct] st v st' ∧ v = .bool (sameG p q) ∧ Qt st st' := by
  obtain ⟨kd, kp, op, nm, n, a, kk, rfl, hd0, hp0, hb0⟩ := hr
  obtain ⟨kd', kp', op', nm', n', a', kk', rfl, hd1, hp1, hb1⟩ := hr'
  refine ev_fn rfl Try.func9 rfl Try.ntmps9 rfl (by decide) (by simp) fun T hT => ?_
  have K : KnT [(0, _), (1, _)] T := (.cons (hT 0) (.cons (hT 1) .nil))
  have M := Mem.start hf
  refine w_seq ?_
  refine w_region ?_
  refine wr_box K M rfl (cell7 hd0.cell hp0.cell (cellN hb0)) (by decide) fun c2 _ _ K M => ?_
  refine wr_box K M rfl (cell7 hd1.cell hp1.cell (cellN hb1)) (by decide) fun c3 _ _ K M => ?_
  refine wr_op K (os_assign rfl) (by decide) fun _ K => ?_
  refine wr_nil ?_
  show W _ _ _ _ _ _ _
  refine w_seq ?_
  refine w_region ?_
  refine wr_op K (os_fieldAddr fPg0 rfl) (by decide) fun _ K => ?_
  refine wr_load (k := 1) K M rfl rfl (part_one tkDcs rfl) (by decide) fun _ K => ?_
  refine wr_op K (os_fieldAddr fPg0 rfl) (by decide) fun _ K => ?_
  refine wr_load (k := 0) K M rfl rfl (part_one tkDcs rfl) (by decide) fun _ K => ?_
  obtain ⟨v9, st9, ev9, rfl, q9⟩ := equal_decls (G := envK3) rfl M.fresh (M.rdds hd0) (M.rdds hd1) (fun k k' st1 hf1 => sameDecl_ev rfl hf1 k k')
  refine wr_op K (os_call rfl ev9) (by decide) fun _ K => ?_
  replace M := M.quiet q9
  refine wr_opb K (os_move rfl) (by decide) fun b10 _ e10 K => ?_
  cases b10 with
  | true =>
    refine wr_gy K rfl rfl (os_fieldAddr fPg1 rfl) (by decide) fun _ K => ?_
    refine wr_gy K rfl rfl (os_load rfl (M.load (k := 1) rfl (part_one tkPds rfl))) (by decide) fun _ K => ?_
    refine wr_gy K rfl rfl (os_fieldAddr fPg1 rfl) (by decide) fun _ K => ?_
    refine wr_gy K rfl rfl (os_load rfl (M.load (k := 0) rfl (part_one tkPds rfl))) (by decide) fun _ K => ?_
    obtain ⟨v15, st15, ev15, rfl, q15⟩ := equal_preds (G := envK3) rfl M.fresh (M.rdps hp0) (M.rdps hp1) (fun k k' st1 cs ct hf1 h1 h2 => samePred_ev rfl rfl rfl rfl rfl hf1 h1 h2)
    refine wr_gy K rfl rfl (os_call rfl ev15) (by decide) fun _ K => ?_
    replace M := M.quiet q15
    refine wr_op K (os_pick rfl rfl rfl) (by decide) fun _ K => ?_
    refine wr_opb K (os_move rfl) (by decide) fun b17 _ e17 K => ?_
    cases b17 with
    | true =>
      refine wr_gy K rfl rfl (os_fieldAddr fPg2 rfl) (by decide) fun _ K => ?_
      refine wr_gy K rfl rfl (os_load rfl (M.load (k := 1) rfl (part_agg tkN rfl))) (by decide) fun _ K => ?_
      refine wr_gy K rfl rfl (os_fieldAddr fPg2 rfl) (by decide) fun _ K => ?_
      refine wr_gy K rfl rfl (os_load rfl (M.load (k := 0) rfl (part_agg tkN rfl))) (by decide) fun _ K => ?_
      obtain ⟨v22, st22, ev22, rfl, q22⟩ := tree_same (G := envK3) rfl rfl _ _ _ M.fresh _ (Qt.refl M.fresh) _ _ (hb0.mono M.rows) (hb1.mono M.rows)
      refine wr_gy K rfl rfl (os_call rfl ev22) (by decide) fun _ K => ?_
      replace M := M.quiet q22
      refine wr_op K (os_pick rfl rfl rfl) (by decide) fun _ K => ?_
      refine wr_op K (os_assign rfl) (by decide) fun _ K => ?_
      refine wr_nil ?_
      show W _ _ _ _ _ _ _
      refine w_ret ?_
      refine ⟨.inr rfl, _, res_tmp K rfl, ?_, M.qt⟩
      exact congrArg AV.bool (by simp_all [sameG])
    | false =>
      refine wr_gn K rfl rfl rfl (by decide) fun _ K => ?_
      refine wr_gn K rfl rfl rfl (by decide) fun _ K => ?_
      refine wr_gn K rfl rfl rfl (by decide) fun _ K => ?_
      refine wr_gn K rfl rfl rfl (by decide) fun _ K => ?_
      refine wr_gn K rfl rfl rfl (by decide) fun _ K => ?_
      refine wr_op K (os_pick rfl rfl rfl) (by decide) fun _ K => ?_
      refine wr_op K (os_assign rfl) (by decide) fun _ K => ?_
      refine wr_nil ?_
      show W _ _ _ _ _ _ _
      refine w_ret ?_
      refine ⟨.inr rfl, _, res_tmp K rfl, ?_, M.qt⟩
      exact congrArg AV.bool (by simp_all [sameG])
  | false =>
    refine wr_gn K rfl rfl rfl (by decide) fun _ K => ?_
    refine wr_gn K rfl rfl rfl (by decide) fun _ K => ?_
    refine wr_gn K rfl rfl rfl (by decide) fun _ K => ?_
    refine wr_gn K rfl rfl rfl (by decide) fun _ K => ?_
    refine wr_gn K rfl rfl rfl (by decide) fun _ K => ?_
    refine wr_op K (os_pick rfl rfl rfl) (by decide) fun _ K => ?_
    refine wr_op K (os_move rfl) (by decide) fun _ K => ?_
    refine wr_gn K rfl rfl rfl (by decide) fun _ K => ?_
    refine wr_gn K rfl rfl rfl (by decide) fun _ K => ?_
    refine wr_gn K rfl rfl rfl (by decide) fun _ K => ?_
    refine wr_gn K rfl rfl rfl (by decide) fun _ K => ?_
    refine wr_gn K rfl rfl rfl (by decide) fun _ K => ?_
    refine wr_op K (os_pick rfl rfl rfl) (by decide) fun _ K => ?_
    refine wr_op K (os_assign rfl) (by decide) fun _ K => ?_
    refine wr_nil ?_
    show W _ _ _ _ _ _ _
    refine w_ret ?_
    refine ⟨.inr rfl, _, res_tmp K rfl, ?_, M.qt⟩
    exact congrArg AV.bool (by simp_all [sameG])
end Go.Proofs.Ytmjnbdkjekdkgaa
