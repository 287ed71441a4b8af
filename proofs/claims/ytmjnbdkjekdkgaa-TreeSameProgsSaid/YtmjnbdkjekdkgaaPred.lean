/-
  Predicates in the reckoner's memory; are two of them one: tree's answer.
-/
import Derived.Test.YtmjnbdkjekdkgaaRfD
import Derived.Test.YtmjnbdkjekdkgaaTrS
namespace Go.Proofs.Ytmjnbdkjekdkgaa
open Go Go.RowKit
set_option linter.unusedVariables false
set_option maxRecDepth 100000

/-- A predicate. -/
structure Pd where
  name : List Nat
  params : List Dc
  body : Nd
  at_ : Int
def sameP (a b : Pd) : Bool := decide (a.name = b.name) && (sameDs a.params b.params && sameN a.body b.body)
theorem RdDs.mono {h h' : Hp} (hr : RowLe h h') {l : List Dc} {ks : AV} (r : RdDs h l ks) : RdDs h' l ks :=
  ⟨r.len, r.bnd, r.cell, fun i d hd => by
    obtain ⟨c, m, off, cells, e, h1, h2⟩ := r.at_ i d hd
    exact ⟨c, m, off, cells, e, hr _ _ _ h1, h2⟩⟩
theorem Mem.rdds {h0 : Hp} {n0 : Nat} {st : St} {M : List (Nat × Nat × List AV)} (hM : Mem h0 n0 [] st M) {l : List Dc} {ks : AV} (r : RdDs h0 l ks) : RdDs st.h.get l ks := r.mono hM.rows
/-- It lies there. -/
def RdP (h : Hp) (p : Pd) (cs : List AV) : Prop := ∃ kp op nm n a kk, cs = [.str p.name, kp, .str op, .str nm, .int .i64 n, .int .i64 a, kk, .int .i64 p.at_] ∧ RdDs h p.params kp ∧ RdN h p.body [.str op, .str nm, .int .i64 n, .int .i64 a, kk]
theorem RdP.mono {h h' : Hp} (hr : RowLe h h') {p : Pd} {cs : List AV} (r : RdP h p cs) : RdP h' p cs := by
  obtain ⟨kp, op, nm, n, a, kk, e, h1, h2⟩ := r
  exact ⟨kp, op, nm, n, a, kk, e, h1.mono hr, h2.mono hr⟩
theorem cell8 {s op nm : List Nat} {n a z : Int} {kp kk : AV} (h1 : isCell kp = true) (h2 : isCell kk = true) : allL isCell (cellsA (.agg [.str s, kp, .str op, .str nm, .int .i64 n, .int .i64 a, kk, .int .i64 z])) = true := by
  show bif' (isCell kp) (bif' (isCell kk) true false) false = true
  rw [h1, h2]
  rfl
theorem tkPd : tk Try.prog 34 = .agg 8 := by kernel_rfl
theorem tkPds : tk Try.prog 30 = .one := by kernel_rfl
theorem fPd0 : fieldOff Try.prog 34 0 = some 0 := by kernel_rfl
theorem fPd1 : fieldOff Try.prog 34 1 = some 1 := by kernel_rfl
theorem fPd2 : fieldOff Try.prog 34 2 = some 2 := by kernel_rfl
theorem uPds : Try.prog.underlying 30 = some (.slice 34) := by kernel_rfl
theorem ePds : elemOfA Try.prog 30 = some 8 := by kernel_rfl
theorem zPd : zeroOf Try.prog 34 = some [.str [], .nils, .str [], .str [], .int .i64 0, .int .i64 0, .nils, .int .i64 0] := by kernel_rfl
theorem szPd : sizeA Try.prog 34 = some 8 := by kernel_rfl
theorem samePred_ev {G : Env} (hs21 : G.s 21 = none) (hs18 : G.s 18 = none) (hs19 : G.s 19 = none) (hs6 : G.s 6 = none)
    (hs13 : G.s 13 = none) {st : St} (hf : Fresh st) {p q : Pd} {cs ct : List AV} (hr : RdP st.h.get p cs) (hr' : RdP st.h.get q ct) : ∃ v st', Ev Try.prog G 21 [.agg cs, .agg ct] st v st' ∧ v = .bool (sameP p q) ∧ Qt st st' := by
  obtain ⟨kp, op, nm, n, a, kk, rfl, hp0, hb0⟩ := hr
  obtain ⟨kp', op', nm', n', a', kk', rfl, hp1, hb1⟩ := hr'
  obtain ⟨name, params, body, at_⟩ := p
  obtain ⟨name', params', body', at'⟩ := q
  obtain ⟨o0, s0, m0, z0, l0⟩ := body
  obtain ⟨o1, s1, m1, z1, l1⟩ := body'
  obtain ⟨_, e, h0⟩ := hb0.open_ tkN
  obtain ⟨_, e', h1⟩ := hb1.open_ tkN
  injection e with x1 x; injection x with x2 x; injection x with x3 x; injection x with x4 x; injection x with x5 x
  injection e' with y1 y; injection y with y2 y; injection y with y3 y; injection y with y4 y; injection y with y5 y
  subst x5 y5
  refine ev_fn hs21 Try.func21 rfl Try.ntmps21 rfl (by decide) (by simp) fun T hT => ?_
  have K : KnT [(0, _), (1, _)] T := (.cons (hT 0) (.cons (hT 1) .nil))
  have M := Mem.start hf
  refine w_seq ?_
  refine w_region ?_
  refine wr_box K M rfl (cell8 hp0.cell h0.cell) (by decide) fun c2 _ _ K M => ?_
  refine wr_box K M rfl (cell8 hp1.cell h1.cell) (by decide) fun c3 _ _ K M => ?_
  refine wr_op K (os_assign rfl) (by decide) fun _ K => ?_
  refine wr_nil ?_
  show W _ _ _ _ _ _ _
  refine w_seq ?_
  refine w_region ?_
  refine wr_op K (os_fieldAddr fPd0 rfl) (by decide) fun _ K => ?_
  refine wr_load (k := 1) K M rfl rfl (part_one tkStr rfl) (by decide) fun _ K => ?_
  refine wr_op K (os_fieldAddr fPd0 rfl) (by decide) fun _ K => ?_
  refine wr_load (k := 0) K M rfl rfl (part_one tkStr rfl) (by decide) fun _ K => ?_
  refine wr_op K (os_eqS rfl rfl) (by decide) fun _ K => ?_
  refine wr_opb K (os_move rfl) (by decide) fun b10 _ e10 K => ?_
  cases b10 with
  | true =>
    refine wr_gy K rfl rfl (os_fieldAddr fPd1 rfl) (by decide) fun _ K => ?_
    refine wr_gy K rfl rfl (os_load rfl (M.load (k := 1) rfl (part_one tkDcs rfl))) (by decide) fun _ K => ?_
    refine wr_gy K rfl rfl (os_fieldAddr fPd1 rfl) (by decide) fun _ K => ?_
    refine wr_gy K rfl rfl (os_load rfl (M.load (k := 0) rfl (part_one tkDcs rfl))) (by decide) fun _ K => ?_
    obtain ⟨v15, st15, ev15, rfl, q15⟩ := equal_decls hs18 M.fresh (M.rdds hp0) (M.rdds hp1) (fun k k' st1 hf1 => sameDecl_ev hs19 hf1 k k')
    refine wr_gy K rfl rfl (os_call rfl ev15) (by decide) fun _ K => ?_
    replace M := M.quiet q15
    refine wr_op K (os_pick rfl rfl rfl) (by decide) fun _ K => ?_
    refine wr_opb K (os_move rfl) (by decide) fun b17 _ e17 K => ?_
    cases b17 with
    | true =>
      refine wr_gy K rfl rfl (os_fieldAddr fPd2 rfl) (by decide) fun _ K => ?_
      refine wr_gy K rfl rfl (os_load rfl (M.load (k := 1) rfl (part_agg tkN rfl))) (by decide) fun _ K => ?_
      refine wr_gy K rfl rfl (os_fieldAddr fPd2 rfl) (by decide) fun _ K => ?_
      refine wr_gy K rfl rfl (os_load rfl (M.load (k := 0) rfl (part_agg tkN rfl))) (by decide) fun _ K => ?_
      obtain ⟨v22, st22, ev22, rfl, q22⟩ := tree_same hs6 hs13 _ _ _ M.fresh _ (Qt.refl M.fresh) _ _ (hb0.mono M.rows) (hb1.mono M.rows)
      refine wr_gy K rfl rfl (os_call rfl ev22) (by decide) fun _ K => ?_
      replace M := M.quiet q22
      refine wr_op K (os_pick rfl rfl rfl) (by decide) fun _ K => ?_
      refine wr_op K (os_assign rfl) (by decide) fun _ K => ?_
      refine wr_nil ?_
      show W _ _ _ _ _ _ _
      refine w_ret ?_
      refine ⟨.inr rfl, _, res_tmp K rfl, ?_, M.qt⟩
      exact congrArg AV.bool (by simp_all [sameP])
    | false =>
      refine wr_gn K rfl rfl rfl (by decide) fun _ K => ?_
      refine wr_gn K rfl rfl rfl (by decide) fun _ K => ?_
      refine wr_gn K rfl rfl rfl (by decide) fun _ K => ?_
      refine wr_gn K rfl rfl rfl (by decide) fun _ K => ?_
      refine wr_gn K rfl rfl rfl (by decide) fun _ K => ?_
      refine wr_op K (os_pick rfl rfl rfl) (by decide) fun _ K => ?_
      refine wr_op K (os_assign rfl) (by decide) fun _ K => ?_
      refine wr_nil ?_
      show W _ _ _ _ _ _ _
      refine w_ret ?_
      refine ⟨.inr rfl, _, res_tmp K rfl, ?_, M.qt⟩
      exact congrArg AV.bool (by simp_all [sameP])
  | false =>
    refine wr_gn K rfl rfl rfl (by decide) fun _ K => ?_
    refine wr_gn K rfl rfl rfl (by decide) fun _ K => ?_
    refine wr_gn K rfl rfl rfl (by decide) fun _ K => ?_
    refine wr_gn K rfl rfl rfl (by decide) fun _ K => ?_
    refine wr_gn K rfl rfl rfl (by decide) fun _ K => ?_
    refine wr_op K (os_pick rfl rfl rfl) (by decide) fun _ K => ?_
    refine wr_op K (os_move rfl) (by decide) fun _ K => ?_
    refine wr_gn K rfl rfl rfl (by decide) fun _ K => ?_
    refine wr_gn K rfl rfl rfl (by decide) fun _ K => ?_
    refine wr_gn K rfl rfl rfl (by decide) fun _ K => ?_
    refine wr_gn K rfl rfl rfl (by decide) fun _ K => ?_
    refine wr_gn K rfl rfl rfl (by decide) fun _ K => ?_
    refine wr_op K (os_pick rfl rfl rfl) (by decide) fun _ K => ?_
    refine wr_op K (os_assign rfl) (by decide) fun _ K => ?_
    refine wr_nil ?_
    show W _ _ _ _ _ _ _
    refine w_ret ?_
    refine ⟨.inr rfl, _, res_tmp K rfl, ?_, M.qt⟩
    exact congrArg AV.bool (by simp_all [sameP])
end Go.Proofs.Ytmjnbdkjekdkgaa
