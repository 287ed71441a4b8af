/-
  TreeSame, by its parts: the program's answer.
-/
import Derived.Test.YtmjnbdkjekdkgaaFine
import Derived.Test.YtmjnbdkjekdkgaaTrS
import Derived.Test.YtmjnbdkjekdkgaaRfS
import Derived.Test.YtmjnbdkjekdkgaaKnown3
namespace Go.Proofs.Ytmjnbdkjekdkgaa
open Go Go.RowKit
set_option linter.unusedVariables false
set_option maxRecDepth 100000

theorem RdN.reat {h : Hp} {op name : List Nat} {n a : Int} {kids : List Nd} {ks : AV} (r : RdN h (.mk op name n a kids) [.str op, .str name, .int .i64 n, .int .i64 a, ks]) (a' : Int) : RdN h (.mk op name n a' kids) [.str op, .str name, .int .i64 n, .int .i64 a', ks] := by
  cases r with
  | leaf hs => exact .leaf hs
  | node hr hn hl hk => exact .node hr hn hl hk
theorem sameL_self {l : List Nd} (h : ∀ k, k ∈ l → sameN k k = true) : sameL l l = true := by
  induction l with
  | nil => rfl
  | cons a l ih => rw [sameL, h a (List.mem_cons_self ..), ih fun k hk => h k (List.mem_cons_of_mem _ hk)]; rfl
theorem sameN_self (k : Nd) : sameN k k = true := nd_rec (M := fun k => sameN k k = true) (fun op name n at_ kids ih => by rw [sameN, sameL_self ih]; simp) k
theorem sameN_at (op name : List Nat) (n a a' : Int) (kids : List Nd) : sameN (.mk op name n a kids) (.mk op name n a' kids) = true := by
  rw [sameN, sameL_self fun k _ => sameN_self k]; simp
theorem uBool : Try.prog.underlying 4 = some .bool := by kernel_rfl
theorem os_eqB {P : Program} {G : Env} {K : List (Nat × AV)} {st : St} {t yt : TypeId} {x y : Operand} {a b : Bool} (ht : P.underlying t = some .bool) (hx : opK G K x = some (.bool a)) (hy : opK G K y = some (.bool b)) : OpS P G K (.binOp .eql t x y yt) st (.bool (a == b)) st :=
  os_bin hx hy (by
    show need (eqFits (P.underlying t) (.bool a)) (ob (eqNil (.bool a) (.bool b)) fun b => some (AV.bool b)) = _
    rw [ht]
    cases a <;> cases b <;> rfl)
theorem szInt : sizeA Try.prog 3 = some 1 := by kernel_rfl
theorem treeSame_ev {a b : Nd} {st : St} {cs ct : List AV} (hf : Fresh st) (hr : RdN st.h.get a cs) (hr' : RdN st.h.get b ct) (z : Int) : ∃ v st', Ev Try.prog envK3 3 [.agg cs, .agg ct, .int .i64 z] st v st' ∧ v = .bool true := by
  obtain ⟨op, name, n, at_, kids⟩ := a
  obtain ⟨op', name', n', at', kids'⟩ := b
  obtain ⟨kk, rfl, h0⟩ := hr.open_ tkN
  obtain ⟨kk', rfl, h1⟩ := hr'.open_ tkN
  have hk8 : ∀ st, Ev Try.prog envK3 8 [] st (.bool true) st := fun st => ⟨0, 1, rfl⟩
  refine ev_fn rfl Try.func3 rfl Try.ntmps3 rfl (by decide) (by simp) fun T hT => ?_
  have K : KnT [(0, _), (1, _), (2, _)] T := (.cons (hT 0) (.cons (hT 1) (.cons (hT 2) .nil)))
  have M := Mem.start hf
  refine w_seq ?_
  refine w_region ?_
  refine wr_box K M rfl (cell5 h0.cell) (by decide) fun c3 _ _ K M => ?_
  refine wr_box K M rfl (cell5 h1.cell) (by decide) fun c4 _ _ K M => ?_
  refine wr_op K (os_assign rfl) (by decide) fun _ K => ?_
  refine wr_nil ?_
  show W _ _ _ _ _ _ _
  refine w_seq ?_
  refine w_seq ?_
  refine w_region ?_
  refine wr_load (k := 1) K M rfl rfl (part_agg tkN rfl) (by decide) fun _ K => ?_
  obtain ⟨v9, st9, ev9, z9, rfl, q9⟩ := fine_ev (G := envK3) rfl rfl rfl rfl rfl M.fresh (hr.mono M.rows)
  refine wr_op K (os_call rfl ev9) (by decide) fun _ K => ?_
  replace M := M.quiet q9
  refine wr_op K (os_not rfl) (by decide) fun _ K => ?_
  refine wr_opb K (os_move rfl) (by decide) fun b11 _ e11 K => ?_
  cases b11 with
  | true =>
    refine wr_gn K rfl rfl rfl (by decide) fun _ K => ?_
    refine wr_gn K rfl rfl rfl (by decide) fun _ K => ?_
    refine wr_gn K rfl rfl rfl (by decide) fun _ K => ?_
    refine wr_op K (os_pick rfl rfl rfl) (by decide) fun _ K => ?_
    refine wr_nil ?_
    show W _ _ _ _ _ _ _
    refine w_cond (t := true) (K.opd rfl) (fun _ => ?_) (fun h => by cases h)
    refine w_seq ?_
    refine w_region ?_
    refine wr_op K (os_assign rfl) (by decide) fun _ K => ?_
    refine wr_nil ?_
    show W _ _ _ _ _ _ _
    refine w_ret ?_
    refine ⟨.inr rfl, _, res_tmp K rfl, ?_⟩
    rfl
  | false =>
    refine wr_gy K rfl rfl (os_load rfl (M.load (k := 0) rfl (part_agg tkN rfl))) (by decide) fun _ K => ?_
    obtain ⟨v13, st13, ev13, z13, rfl, q13⟩ := fine_ev (G := envK3) rfl rfl rfl rfl rfl M.fresh (hr'.mono M.rows)
    refine wr_gy K rfl rfl (os_call rfl ev13) (by decide) fun _ K => ?_
    replace M := M.quiet q13
    refine wr_gy K rfl rfl (os_not rfl) (by decide) fun _ K => ?_
    refine wr_op K (os_pick rfl rfl rfl) (by decide) fun _ K => ?_
    refine wr_nil ?_
    show W _ _ _ _ _ _ _
    refine w_cond (K.opd rfl) (fun h => ?_) (fun h => ?_)
    · refine w_seq ?_
      refine w_region ?_
      refine wr_op K (os_assign rfl) (by decide) fun _ K => ?_
      refine wr_nil ?_
      show W _ _ _ _ _ _ _
      refine w_ret ?_
      refine ⟨.inr rfl, _, res_tmp K rfl, ?_⟩
      rfl
    · refine w_skip ?_
      show W _ _ _ _ _ _ _
      refine w_seq ?_
      refine w_region ?_
      refine wr_load (k := 1) K M rfl rfl (part_agg tkN rfl) (by decide) fun _ K => ?_
      refine wr_alloc K M zNode (by decide) fun c7 _ _ K M => ?_
      refine wr_store (k := 0) K M rfl rfl rfl szNode rfl (cell5 h0.cell) rfl fun _ M => ?_
      refine wr_nil ?_
      show W _ _ _ _ _ _ _
      refine w_seq ?_
      refine w_region ?_
      refine wr_op K (os_move rfl) (by decide) fun _ K => ?_
      refine wr_op K (os_fieldAddr fN3 rfl) (by decide) fun _ K => ?_
      refine wr_store (k := 0) K M rfl rfl rfl szInt rfl rfl rfl fun _ M => ?_
      refine wr_nil ?_
      show W _ _ _ _ _ _ _
      refine w_seq ?_
      have M5 := M
      refine w_drawI (l := [(0, 0), (1, 0), (2, 0), (3, 1), (4, 1), (5, 0), (6, 0), (7, 0), (8, 0), (9, 0), (10, 0), (11, 0), (12, 0), (13, 0), (14, 0), (15, 0), (16, 0), (17, 0), (18, 0), (19, 0), (20, 0)]) (by kernel_rfl) ?_
      refine wd_op rfl K (os_load rfl (M.load (k := 2) rfl (part_agg tkN rfl))) rfl (by decide) fun _ K => ?_
      refine wd_op rfl K (os_load rfl (M.load (k := 1) rfl (part_agg tkN rfl))) rfl (by decide) fun _ K => ?_
      obtain ⟨v21, st21, ev21, rfl, q21⟩ := tree_same (G := envK3) rfl rfl _ _ _ M.fresh _ (Qt.refl M.fresh) _ _ (hr.mono M.rows) (hr'.mono M.rows)
      refine wd_act rfl K (os_call rfl ev21) rfl (by decide) fun _ K => ?_
      replace M := M.quiet q21
      refine wd_load1 rfl K rfl (M.load (k := 2) rfl (part_agg tkN rfl)) (M5.load (k := 2) rfl (part_agg tkN rfl)) (eq5 h0.len) rfl (by decide) fun _ K => ?_
      refine wd_load1 rfl K rfl (M.load (k := 1) rfl (part_agg tkN rfl)) (M5.load (k := 1) rfl (part_agg tkN rfl)) (eq5 h1.len) rfl (by decide) fun _ K => ?_
      obtain ⟨v24, st24, ev24, rfl, q24⟩ := ref_same (G := envK3) rfl _ _ _ M.fresh _ (Qt.refl M.fresh) _ _ (hr.mono M.rows) (hr'.mono M.rows)
      refine wd_act rfl K (os_call rfl ev24) rfl (by decide) fun _ K => ?_
      replace M := M.quiet q24
      refine wd_op rfl K (os_eqB uBool rfl rfl) rfl (by decide) fun _ K => ?_
      refine wd_opb rfl K (os_move rfl) rfl (by decide) fun b26 _ e26 K => ?_
      cases b26 with
      | true =>
        refine wd_gy rfl K rfl rfl (os_load rfl (M.load (k := 2) rfl (part_agg tkN rfl))) rfl (by decide) fun _ K => ?_
        refine wd_gy rfl K rfl rfl (os_load rfl (M.load (k := 0) rfl (part_agg tkN rfl))) rfl (by decide) fun _ K => ?_
        obtain ⟨v29, st29, ev29, rfl, q29⟩ := tree_same (G := envK3) rfl rfl _ _ _ M.fresh _ (Qt.refl M.fresh) _ _ (hr.mono M.rows) ((hr.reat z).mono M.rows)
        refine wd_gya rfl K rfl rfl (os_call rfl ev29) rfl (by decide) fun _ K => ?_
        replace M := M.quiet q29
        refine wd_op rfl K (os_pick rfl rfl rfl) rfl (by decide) fun _ K => ?_
        refine wd_opb rfl K (os_move rfl) rfl (by decide) fun b31 _ e31 K => ?_
        cases b31 with
        | true =>
          refine wd_gy rfl K rfl rfl (os_load rfl (M.load (k := 0) rfl (part_agg tkN rfl))) rfl (by decide) fun _ K => ?_
          refine wd_gy rfl K rfl rfl (os_load rfl (M.load (k := 2) rfl (part_agg tkN rfl))) rfl (by decide) fun _ K => ?_
          obtain ⟨v34, st34, ev34, rfl, q34⟩ := tree_same (G := envK3) rfl rfl _ _ _ M.fresh _ (Qt.refl M.fresh) _ _ ((hr.reat z).mono M.rows) (hr.mono M.rows)
          refine wd_gya rfl K rfl rfl (os_call rfl ev34) rfl (by decide) fun _ K => ?_
          replace M := M.quiet q34
          refine wd_op rfl K (os_pick rfl rfl rfl) rfl (by decide) fun _ K => ?_
          refine wd_opb rfl K (os_move rfl) rfl (by decide) fun b36 _ e36 K => ?_
          cases b36 with
          | true =>
            have ev37 := hk8
            refine wd_gya rfl K rfl rfl (os_call rfl (ev37 _)) rfl (by decide) fun _ K => ?_
            refine wd_op rfl K (os_pick rfl rfl rfl) rfl (by decide) fun _ K => ?_
            refine wd_op rfl K (os_assign rfl) rfl (by decide) fun _ K => ?_
            refine wd_nil ?_
            show W _ _ _ _ _ _ _
            refine w_ret ?_
            refine ⟨.inr rfl, _, res_tmp K rfl, ?_⟩
            rfl
          | false =>
            refine wd_gn rfl K rfl rfl rfl (by decide) fun _ _ K => ?_
            refine wd_op rfl K (os_pick rfl rfl rfl) rfl (by decide) fun _ K => ?_
            refine wd_op rfl K (os_assign rfl) rfl (by decide) fun _ K => ?_
            refine wd_nil ?_
            show W _ _ _ _ _ _ _
            refine w_ret ?_
            refine ⟨.inr rfl, _, res_tmp K rfl, ?_⟩
            exact absurd e36 (by rw [sameN_at]; decide)
        | false =>
          refine wd_gn rfl K rfl rfl rfl (by decide) fun _ _ K => ?_
          refine wd_gn rfl K rfl rfl rfl (by decide) fun _ _ K => ?_
          refine wd_gn rfl K rfl rfl rfl (by decide) fun _ _ K => ?_
          refine wd_op rfl K (os_pick rfl rfl rfl) rfl (by decide) fun _ K => ?_
          refine wd_op rfl K (os_move rfl) rfl (by decide) fun _ K => ?_
          refine wd_gn rfl K rfl rfl rfl (by decide) fun _ _ K => ?_
          refine wd_op rfl K (os_pick rfl rfl rfl) rfl (by decide) fun _ K => ?_
          refine wd_op rfl K (os_assign rfl) rfl (by decide) fun _ K => ?_
          refine wd_nil ?_
          show W _ _ _ _ _ _ _
          refine w_ret ?_
          refine ⟨.inr rfl, _, res_tmp K rfl, ?_⟩
          exact absurd e31 (by rw [sameN_at]; decide)
      | false =>
        refine wd_gn rfl K rfl rfl rfl (by decide) fun _ _ K => ?_
        refine wd_gn rfl K rfl rfl rfl (by decide) fun _ _ K => ?_
        refine wd_gn rfl K rfl rfl rfl (by decide) fun _ _ K => ?_
        refine wd_op rfl K (os_pick rfl rfl rfl) rfl (by decide) fun _ K => ?_
        refine wd_op rfl K (os_move rfl) rfl (by decide) fun _ K => ?_
        refine wd_gn rfl K rfl rfl rfl (by decide) fun _ _ K => ?_
        refine wd_gn rfl K rfl rfl rfl (by decide) fun _ _ K => ?_
        refine wd_gn rfl K rfl rfl rfl (by decide) fun _ _ K => ?_
        refine wd_op rfl K (os_pick rfl rfl rfl) rfl (by decide) fun _ K => ?_
        refine wd_op rfl K (os_move rfl) rfl (by decide) fun _ K => ?_
        refine wd_gn rfl K rfl rfl rfl (by decide) fun _ _ K => ?_
        refine wd_op rfl K (os_pick rfl rfl rfl) rfl (by decide) fun _ K => ?_
        refine wd_op rfl K (os_assign rfl) rfl (by decide) fun _ K => ?_
        refine wd_nil ?_
        show W _ _ _ _ _ _ _
        refine w_ret ?_
        refine ⟨.inr rfl, _, res_tmp K rfl, ?_⟩
        exact absurd e26 (by simp)
end Go.Proofs.Ytmjnbdkjekdkgaa
