/-
  ProjNew.
-/
import Derived.Test.YtiknomepbklibaaDoorNwPtl
import Derived.Test.YtiknomepbklibaaDoorNwT23P
import Derived.Test.YtiknomepbklibaaDoorNwT23
namespace Go.Proofs.YtiknomepbklibaaDoor
open Go Go.RowKit
set_option linter.unusedVariables false
set_option linter.unusedSimpArgs false
set_option linter.unnecessarySimpa false
set_option maxRecDepth 100000
set_option maxHeartbeats 4000000

theorem new_like {a m : Au} {acc : List Bool} {k : Nat} (W : WFA a) (hk : k ≤ a.tr) {L : List (List Int)} (hM : MadeA (stepS (widen a k) k) [0] (anyS acc) L m) (ht : m.tr = a.tr) : Like m ⟨a.tr, acc, a.nx⟩ 0 0 := fun w hw => by
 have hwa : LetK a.K w := by unfold Au.K at hw ⊢; rw [← ht]; exact hw
 rw [hM.lang hw, show ([0] : List Int) = [((0 : Nat) : Int)] from rfl, widen_fold W hk w W.pos hwa]
 unfold anyS
 rw [List.any_cons, List.any_nil, Bool.or_false, Int.toNat_natCast]
 rfl
theorem new_small {a : Au} {k : Nat} (W : WFA a) (hk : k ≤ a.tr) {L : List (List Int)} (hn : L.Nodup) (h : ∀ (Q : List Int → Prop), Q [0] → (∀ s c, Q s → c < 2 ^ ((widen a k).tr - 1) → Q (stepS (widen a k) k s c)) → ∀ s ∈ L, Q s) : L.length ≤ a.n := by
 have := nodup_le (b := (List.range a.n).map fun z => [((z : Nat) : Int)]) hn (h (fun s => s ∈ (List.range a.n).map fun z => [((z : Nat) : Int)]) (List.mem_map.2 ⟨0, List.mem_range.2 W.pos, rfl⟩) fun s c hs hc => by
  obtain ⟨z, hz, rfl⟩ := List.mem_map.1 hs
  have hz := List.mem_range.1 hz
  have := widen_fold W hk [c] hz fun x hx => by rw [List.mem_singleton.1 hx]; exact hc
  rw [List.foldl_cons, List.foldl_nil] at this
  rw [this]
  exact List.mem_map.2 ⟨_, List.mem_range.2 (W.go_lt hz hc), rfl⟩)
 simpa using this

theorem projNewNo_ev {st : St} (hf : Fresh st) {t : Int} {acc : List Bool} {nx : List (List Int)} {ka kn : AV} {ls : List (List AV)} (hA : RdR st.h.get [] 1 (bC acc) ka) (hN : LsR st.h.get nx kn ls) {k : Int} (hk : ¬ (0 ≤ k ∧ k ≤ t)) : ∃ v st', Ev Tryd.prog envP 4 [.agg [.int .i64 t, ka, kn], .int .i64 k] st v st' ∧ v = .bool true := by
 have hac := hA.cell; have hnc := hN.r.cell
 have hbnacc : (acc.length : Int) ≤ 9223372036854775807 := by have := hA.bnd; rw [bC_len] at this; exact this
 have hbn : (nx.length : Int) ≤ 9223372036854775807 := by have := hN.r.bnd; rw [hN.ln] at this; exact this
 have B := MemO.start hf
 refine ev_fn rfl Tryd.func4 rfl Tryd.ntmps4 rfl (by decide) (by simp) fun T hT => ?_
 have K : KnT [(0, _), (1, _)] T := (.cons (hT 0) (.cons (hT 1) .nil))
 have M := B.mem
 refine w_seq <| w_region ?_
 refine wr_box K M rfl (cl_cons rfl (cl_cons hA.cell (cl_cons hN.r.cell cl_nil))) (by decide) fun c2 _ _ K M => ?_
 refine o1 K (os_assign rfl) rfl fun _ K => wr_nil ?_
 show W _ _ _ _ _ _ _
 refine w_seq <| w_seq <| w_region <| o1 K (os_load rfl (M.load (k := 0) rfl (part_agg tk_api_Auto rfl))) rfl fun _ K => ?_
 obtain ⟨v12, st12, ev12, bm, rfl, hbm, q12⟩ := may22_ev M.fresh ((B.step M).rd0 hf hA) (hN.old hf fun c hc => (B.step M).old c hc id)
 refine o1 K (os_call rfl ev12) rfl fun _ K => ?_
 replace M := M.quiet q12
 refine o1 K (os_not rfl) rfl fun _ K => ?_
 refine oB K (os_move rfl) rfl fun b14 _ e14 K => ?_
 cases b14
 ·replace e14 : (bm) = true := by first | simpa using e14 | (revert e14; cases (bm) <;> simp)
  refine og K rfl rfl (os_fieldAddr fo_api_Auto_1 rfl) rfl fun _ K => og K rfl rfl (os_load rfl (M.load (k := 0) rfl (part_one tk_S_bool rfl))) rfl fun _ K => og K rfl rfl (os_lenL un_S_bool rfl rfl (hA.len.trans (congrArg some (bC_len _)))) rfl fun _ K => og K rfl rfl (os_gtr rfl rfl) rfl fun _ K => o1 K (os_pick rfl rfl rfl) rfl fun _ K => ?_
  refine oB K (os_move rfl) rfl fun b20 _ e20 K => ?_
  cases b20
  ·replace e20 := of_decide_eq_false e20
   refine og K rfl rfl (os_fieldAddr fo_api_Auto_0 rfl) rfl fun _ K => og K rfl rfl (os_load rfl (M.load (k := 0) rfl (part_one tk_int rfl))) rfl fun _ K => og K rfl rfl (os_gtr rfl rfl) rfl fun _ K => o1 K (os_pick rfl rfl rfl) rfl fun _ K => wr_nil ?_
   show W _ _ _ _ _ _ _
   refine w_cond (K.opd rfl) (fun h24 => ?_) (fun h24 => ?_)
   ·have hb24 := h24
    replace h24 := of_decide_eq_true h24
    refine w_seq <| w_region <| o1 K (os_assign rfl) rfl fun _ K => wr_nil ?_
    show W _ _ _ _ _ _ _
    refine w_ret ?_
    refine ⟨.inr rfl, _, (res_one (rs_tmp K rfl)), ?_⟩
    rfl
   have hb24 := h24
   replace h24 := of_decide_eq_false h24
   refine w_skip ?_
   show W _ _ _ _ _ _ _
   refine w_seq ?_
   obtain ⟨ht0, wf, h40⟩ := hbm (by simpa using e14)
   obtain ⟨tn, rfl⟩ : ∃ m : Nat, t = ((m : Nat) : Int) := ⟨t.toNat, by omega⟩
   rw [Int.toNat_natCast] at wf
   have htr : tn ≤ 6 := wf.tr
   refine w_region <| o1 K (os_load rfl (M.load (k := 0) rfl (part_agg tk_api_Auto rfl))) rfl fun _ K => o1 K (os_move rfl) rfl fun _ K => ?_
   obtain ⟨v28, st28, ev28, tx, kx, ky, rfl, hkx, hky, q28⟩ := widenNo_ev (a := (⟨tn, acc, nx⟩ : Au)) M.fresh wf ((B.step M).rd0 hf hA) (hN.old hf fun c hc => (B.step M).old c hc id) (k := k) (fun h => hk ⟨h.2.1, h.2.2⟩)
   refine o1 K (os_call rfl ev28) rfl fun _ K => ?_
   replace M := M.quiet q28
   refine o1 K (os_move rfl) rfl fun _ K => o1 K (os_extract rfl rfl) rfl fun _ K => o1 K (os_extract rfl rfl) rfl fun _ K => ?_
   refine wr_alloc K M ze_api_Auto (by decide) fun c5 _ _ K M => ?_
   refine wr_store (k := 0) K M rfl rfl rfl sz_api_Auto rfl (cl_cons rfl (cl_cons hkx (cl_cons hky cl_nil))) rfl fun _ M => ?_
   refine o1 K (os_assign rfl) rfl fun _ K => wr_nil ?_
   show W _ _ _ _ _ _ _
   refine w_seq <| w_seq <| w_region <| o1 K (os_move rfl) rfl fun _ K => o1 K (os_not rfl) rfl fun _ K => o1 K (os_move rfl) rfl fun _ K => gn K rfl rfl rfl rfl fun _ K => gn K rfl rfl rfl rfl fun _ K => gn K rfl rfl rfl rfl fun _ K => ?_
   refine o1 K (os_pick rfl rfl rfl) rfl fun _ K => wr_nil ?_
   show W _ _ _ _ _ _ _
   refine w_cond (t := true) (K.opd rfl) (fun _ => ?_) (fun h => by cases h)
   refine w_seq <| w_region <| o1 K (os_assign rfl) rfl fun _ K => wr_nil ?_
   show W _ _ _ _ _ _ _
   refine w_ret ?_
   refine ⟨.inr rfl, _, (res_one (rs_tmp K rfl)), ?_⟩
   rfl
  replace e20 := of_decide_eq_true e20
  refine gn K rfl rfl rfl rfl fun _ K => gn K rfl rfl rfl rfl fun _ K => gn K rfl rfl rfl rfl fun _ K => o1 K (os_pick rfl rfl rfl) rfl fun _ K => wr_nil ?_
  show W _ _ _ _ _ _ _
  refine w_cond (t := true) (K.opd rfl) (fun _ => ?_) (fun h => by cases h)
  refine w_seq <| w_region <| o1 K (os_assign rfl) rfl fun _ K => wr_nil ?_
  show W _ _ _ _ _ _ _
  refine w_ret ?_
  refine ⟨.inr rfl, _, (res_one (rs_tmp K rfl)), ?_⟩
  rfl
 replace e14 : (bm) = false := by first | simpa using e14 | (revert e14; cases (bm) <;> simp)
 refine gn K rfl rfl rfl rfl fun _ K => gn K rfl rfl rfl rfl fun _ K => gn K rfl rfl rfl rfl fun _ K => gn K rfl rfl rfl rfl fun _ K => o1 K (os_pick rfl rfl rfl) rfl fun _ K => o1 K (os_move rfl) rfl fun _ K => gn K rfl rfl rfl rfl fun _ K => gn K rfl rfl rfl rfl fun _ K => gn K rfl rfl rfl rfl fun _ K => ?_
 refine o1 K (os_pick rfl rfl rfl) rfl fun _ K => wr_nil ?_
 show W _ _ _ _ _ _ _
 refine w_cond (t := true) (K.opd rfl) (fun _ => ?_) (fun h => by cases h)
 refine w_seq <| w_region <| o1 K (os_assign rfl) rfl fun _ K => wr_nil ?_
 show W _ _ _ _ _ _ _
 refine w_ret ?_
 refine ⟨.inr rfl, _, (res_one (rs_tmp K rfl)), ?_⟩
 rfl

theorem projNewYes_ev {st : St} (hf : Fresh st) {t : Int} {acc : List Bool} {nx : List (List Int)} {ka kn : AV} {ls : List (List AV)} (hA : RdR st.h.get [] 1 (bC acc) ka) (hN : LsR st.h.get nx kn ls) {k : Int} (hk : 0 ≤ k ∧ k ≤ t) : ∃ v st', Ev Tryd.prog envP 4 [.agg [.int .i64 t, ka, kn], .int .i64 k] st v st' ∧ v = .bool true := by
 have hac := hA.cell; have hnc := hN.r.cell
 have hbnacc : (acc.length : Int) ≤ 9223372036854775807 := by have := hA.bnd; rw [bC_len] at this; exact this
 have hbn : (nx.length : Int) ≤ 9223372036854775807 := by have := hN.r.bnd; rw [hN.ln] at this; exact this
 have B := MemO.start hf
 refine ev_fn rfl Tryd.func4 rfl Tryd.ntmps4 rfl (by decide) (by simp) fun T hT => ?_
 have K : KnT [(0, _), (1, _)] T := (.cons (hT 0) (.cons (hT 1) .nil))
 have M := B.mem
 refine w_seq <| w_region ?_
 refine wr_box K M rfl (cl_cons rfl (cl_cons hA.cell (cl_cons hN.r.cell cl_nil))) (by decide) fun c2 _ _ K M => ?_
 refine o1 K (os_assign rfl) rfl fun _ K => wr_nil ?_
 show W _ _ _ _ _ _ _
 refine w_seq <| w_seq <| w_region <| o1 K (os_load rfl (M.load (k := 0) rfl (part_agg tk_api_Auto rfl))) rfl fun _ K => ?_
 obtain ⟨v12, st12, ev12, bm, rfl, hbm, q12⟩ := may22_ev M.fresh ((B.step M).rd0 hf hA) (hN.old hf fun c hc => (B.step M).old c hc id)
 refine o1 K (os_call rfl ev12) rfl fun _ K => ?_
 replace M := M.quiet q12
 refine o1 K (os_not rfl) rfl fun _ K => ?_
 refine oB K (os_move rfl) rfl fun b14 _ e14 K => ?_
 cases b14
 ·replace e14 : (bm) = true := by first | simpa using e14 | (revert e14; cases (bm) <;> simp)
  refine og K rfl rfl (os_fieldAddr fo_api_Auto_1 rfl) rfl fun _ K => og K rfl rfl (os_load rfl (M.load (k := 0) rfl (part_one tk_S_bool rfl))) rfl fun _ K => og K rfl rfl (os_lenL un_S_bool rfl rfl (hA.len.trans (congrArg some (bC_len _)))) rfl fun _ K => og K rfl rfl (os_gtr rfl rfl) rfl fun _ K => o1 K (os_pick rfl rfl rfl) rfl fun _ K => ?_
  refine oB K (os_move rfl) rfl fun b20 _ e20 K => ?_
  cases b20
  ·replace e20 := of_decide_eq_false e20
   refine og K rfl rfl (os_fieldAddr fo_api_Auto_0 rfl) rfl fun _ K => og K rfl rfl (os_load rfl (M.load (k := 0) rfl (part_one tk_int rfl))) rfl fun _ K => og K rfl rfl (os_gtr rfl rfl) rfl fun _ K => o1 K (os_pick rfl rfl rfl) rfl fun _ K => wr_nil ?_
   show W _ _ _ _ _ _ _
   refine w_cond (K.opd rfl) (fun h24 => ?_) (fun h24 => ?_)
   ·have hb24 := h24
    replace h24 := of_decide_eq_true h24
    refine w_seq <| w_region <| o1 K (os_assign rfl) rfl fun _ K => wr_nil ?_
    show W _ _ _ _ _ _ _
    refine w_ret ?_
    refine ⟨.inr rfl, _, (res_one (rs_tmp K rfl)), ?_⟩
    rfl
   have hb24 := h24
   replace h24 := of_decide_eq_false h24
   refine w_skip ?_
   show W _ _ _ _ _ _ _
   refine w_seq ?_
   obtain ⟨ht0, wf, h40⟩ := hbm (by simpa using e14)
   obtain ⟨tn, rfl⟩ : ∃ m : Nat, t = ((m : Nat) : Int) := ⟨t.toNat, by omega⟩
   rw [Int.toNat_natCast] at wf
   have htr : tn ≤ 6 := wf.tr
   obtain ⟨kk, rfl⟩ : ∃ m : Nat, k = ((m : Nat) : Int) := ⟨k.toNat, by omega⟩
   have hkt : kk ≤ tn := by omega
   have hkA : kk ≤ (⟨tn, acc, nx⟩ : Au).tr := hkt
   refine w_region <| o1 K (os_load rfl (M.load (k := 0) rfl (part_agg tk_api_Auto rfl))) rfl fun _ K => o1 K (os_move rfl) rfl fun _ K => ?_
   replace B := B.step M
   obtain ⟨v28, st28, ev28, knw, vsw, Fw, rfl, hlw, nfw, q28⟩ := widen_ev (a := (⟨tn, acc, nx⟩ : Au)) B.fresh wf (B.rd0 hf hA) (hN.old hf fun c hc => B.old c hc id) (k := kk) (show tn < 6 by omega) hkt
   refine o1 K (os_call rfl ev28) rfl fun _ K => ?_
   replace B := B.new (o := lsO Fw knw vsw (widen ⟨tn, acc, nx⟩ kk).nx) q28 hlw nfw
   have hnw : isCell knw = true := hlw.rd.cell
   have M := B.mem
   refine o1 K (os_move rfl) rfl fun _ K => o1 K (os_extract rfl rfl) rfl fun _ K => o1 K (os_extract rfl rfl) rfl fun _ K => ?_
   refine wr_alloc K M ze_api_Auto (by decide) fun c5 _ _ K M => ?_
   refine wr_store (k := 0) K M rfl rfl rfl sz_api_Auto rfl (cl_cons rfl (cl_cons hA.cell (cl_cons hnw cl_nil))) rfl fun _ M => ?_
   refine o1 K (os_assign rfl) rfl fun _ K => wr_nil ?_
   show W _ _ _ _ _ _ _
   refine w_seq <| w_seq <| w_region <| o1 K (os_move rfl) rfl fun _ K => o1 K (os_not rfl) rfl fun _ K => o1 K (os_move rfl) rfl fun _ K => og K rfl rfl (os_load rfl (M.load (k := 0) rfl (part_agg tk_api_Auto rfl))) rfl fun _ K => ?_
   obtain ⟨v35, st35, ev35, bis, rfl, hbis, q35⟩ := r19Is_ev (t := ((tn + 1 : Nat) : Int)) (acc := acc) M.fresh ((B.step M).rd0 hf hA) (LsAt.r ((B.step M).at_ (k := 0) rfl))
   refine og K rfl rfl (os_call rfl ev35) rfl fun _ K => ?_
   replace M := M.quiet q35
   refine og K rfl rfl (os_not rfl) rfl fun _ K => o1 K (os_pick rfl rfl rfl) rfl fun _ K => wr_nil ?_
   show W _ _ _ _ _ _ _
   refine w_cond (K.opd rfl) (fun h37 => ?_) (fun h37 => ?_)
   ·have hb37 := h37
    replace h37 : (bis) = false := by first | simpa using h37 | (revert h37; cases (bis) <;> simp)
    refine w_seq <| w_region <| o1 K (os_assign rfl) rfl fun _ K => wr_nil ?_
    show W _ _ _ _ _ _ _
    refine w_ret ?_
    refine ⟨.inr rfl, _, (res_one (rs_tmp K rfl)), ?_⟩
    rfl
   have hb37 := h37
   replace h37 : (bis) = true := by first | simpa using h37 | (revert h37; cases (bis) <;> simp)
   refine w_skip ?_
   show W _ _ _ _ _ _ _
   refine w_seq ?_
   have wfw : WFA (widen ⟨tn, acc, nx⟩ kk) := by have h9 := (hbis (by simpa using hb37)).2; rw [Int.toNat_natCast] at h9; exact h9
   have hkw : kk < (widen ⟨tn, acc, nx⟩ kk).tr := Nat.lt_succ_of_le hkt
   refine w_region <| o1 K (os_load rfl (M.load (k := 0) rfl (part_agg tk_api_Auto rfl))) rfl fun _ K => ?_
   replace B := B.step M
   obtain ⟨v40, st40, ev40, dp, F1, rfl, hD, nf, q40⟩ := of22_ev (a := (widen ⟨tn, acc, nx⟩ kk)) B.fresh wfw (B.rd0 hf hA) (LsAt.r (B.at_ (k := 0) rfl))
   refine o1 K (os_call rfl ev40) rfl fun _ K => ?_
   replace B := B.new (o := dfaO F1 dp (widen ⟨tn, acc, nx⟩ kk)) q40 hD.at_ nf
   have M := B.mem
   refine o1 K (os_move rfl) rfl fun _ K => ?_
   replace B := B.step M
   obtain ⟨v42, st42, ev42, mp, rfl, hmp, hmr, q42⟩ := mNew_ev B.fresh 1000
   refine o1 K (os_call rfl ev42) rfl fun _ K => ?_
   replace B := B.new (o := mtO mp 1000 false) q42 hmr (fun c hc => by rw [show c = mp from hc]; exact ⟨hmp, hmr.lt q42.fresh⟩)
   have M := B.mem
   replace B := B.step M
   have B0 := B
   obtain ⟨v43, st43, ev43, ⟨acc1, hcl, hPR⟩, QP⟩ := pProject_ev B.fresh (B.dfa (k := 1) rfl) hkw (show Row1 _ mp 0 [.int .i64 ((1000 : Nat) : Int), .bool false] from B.at_ (k := 0) rfl) (fun h => (List.pairwise_cons.1 B.dj).1 (dfaO F1 dp (widen ⟨tn, acc, nx⟩ kk)) (by simp) mp rfl h) (by decide) (by decide)
   refine o1 K (os_call rfl ev43) rfl fun _ K => ?_
   obtain ⟨xv, ev, l2, rfl, hml, hPR⟩ := hPR.ex
   obtain ⟨rfl, dp2, F2, L, m, rfl, hD2, nf2, htr2, hMd, _⟩ := hPR.resolve_right (fun h => by obtain ⟨_, _, L, h1, h2, h3⟩ := h; have := new_small wf hkA h2 h3; have hnn : (⟨tn, acc, nx⟩ : Au).n = acc.length := rfl; omega)
   replace B := B.call (k := 0) (o' := mtO mp l2 false) rfl QP hml (noMore fun c hc => by rw [show c = mp from hc]; exact hml.lt QP.fresh)
   replace B := B0.addNew (k := 0) (o := dfaO F2 dp2 m) (om' := mtO mp l2 false) rfl rfl B hD2.at_ nf2
   have M := B.mem
   refine o1 K (os_move rfl) rfl fun _ K => o1 K (os_extract rfl rfl) rfl fun _ K => o1 K (os_extract rfl rfl) rfl fun _ K => o1 K (os_assign rfl) rfl fun _ K => o1 K (os_assign rfl) rfl fun _ K => wr_nil ?_
   show W _ _ _ _ _ _ _
   refine w_seq <| w_seq <| w_region <| o1 K (os_move rfl) rfl fun _ K => o1 K (os_neI rfl rfl) rfl fun _ K => ?_
   refine oB K (os_move rfl) rfl fun b48 _ e48 K => ?_
   cases b48
   ·replace e48 : (0 = 0) := by first | simpa using e48 | (by_cases hq : (0 = 0); exact hq; rw [decide_eq_false hq] at e48; cases e48)
    refine og K rfl rfl (os_move rfl) rfl fun _ K => og K rfl rfl (os_eqPN un_P_auto_DFA rfl rfl) rfl fun _ K => o1 K (os_pick rfl rfl rfl) rfl fun _ K => wr_nil ?_
    show W _ _ _ _ _ _ _
    refine w_cond (t := false) (K.opd rfl) (fun h => by cases h) (fun _ => ?_)
    refine w_skip ?_
    show W _ _ _ _ _ _ _
    refine w_seq <| w_region <| o1 K (os_load rfl (M.load (k := 0) rfl (part_agg tk_api_Auto rfl))) rfl fun _ K => o1 K (os_move rfl) rfl fun _ K => ?_
    obtain ⟨v54, st54, ev54, kr2, acc2, rfl, hca2, nr54, q54⟩ := rClose_ev (a := (widen ⟨tn, acc, nx⟩ kk)) M.fresh wfw ((B.step M).rd0 hf hA) (LsAt.r ((B.step M).at_ (k := 3) rfl)) hkw
    refine o1 K (os_call rfl ev54) rfl fun _ K => ?_
    obtain ⟨Ar, hAr, M⟩ := M.callAcc q54 nr54
    replace hAr := hAr.z0
    replace M := Mem.cast (M' := ((c5, 0, [.int .i64 ((((tn + 1) : Nat) : Int)), ka, knw]) :: (c2, 0, [.int .i64 (((tn : Nat) : Int)), ka, kn]) :: (Ar ++ []))) M (by first | (simp only [List.append_assoc, List.cons_append, List.nil_append, List.append_nil, List.set_cons_zero, List.set_cons_succ]; done) | (simp only [List.append_assoc, List.cons_append, List.nil_append, List.append_nil, List.set_cons_zero, List.set_cons_succ]; rfl))
    refine wr_alloc K M ze_api_Auto (by decide) fun c9 _ _ K M => ?_
    refine wr_store (k := 0) K M rfl rfl rfl sz_api_Auto rfl (cl_cons rfl (cl_cons hAr.cell (cl_cons hnw cl_nil))) rfl fun _ M => ?_
    refine wr_nil ?_
    show W _ _ _ _ _ _ _
    refine w_seq <| w_region <| o1 K (os_fieldAddr fo_api_Auto_0 rfl) rfl fun _ K => o1 K (os_load rfl (M.load (k := 2) rfl (part_one tk_int rfl))) rfl fun _ K => o1 K (os_fieldAddr fo_api_Auto_1 rfl) rfl fun _ K => o1 K (os_load rfl (M.load (k := 0) rfl (part_one tk_S_bool rfl))) rfl fun _ K => o1 K (os_fieldAddr fo_api_Auto_2 rfl) rfl fun _ K => o1 K (os_load rfl (M.load (k := 2) rfl (part_one tk_S_S_int rfl))) rfl fun _ K => o1 K (os_build st_api_Auto rfl ((fillA_any rfl rfl rfl).trans ((fillA_one rfl hAr.cell rfl).trans ((fillA_one rfl hN.r.cell rfl).trans rfl)))) rfl fun _ K => ?_
    refine wr_alloc K M ze_api_Auto (by decide) fun c10 _ _ K M => ?_
    refine wr_store (k := 0) K M rfl rfl rfl sz_api_Auto rfl (cl_cons rfl (cl_cons hAr.cell (cl_cons hN.r.cell cl_nil))) rfl fun _ M => ?_
    refine wr_nil ?_
    show W _ _ _ _ _ _ _
    refine w_seq ?_
    refine w_drawI (l := [(0, 0), (1, 0), (2, 1), (3, 0), (4, 0), (5, 0), (6, 0), (7, 0)]) (by kernel_rfl) ?_
    have Mq := M
    refine d1 rfl K (os_move rfl) rfl rfl fun _ K => ?_
    replace B := B.step M
    obtain ⟨v63, st63, ev63, nau63, q63⟩ := dTo_i B.fresh (B.dfa (k := 0) rfl)
    refine dA rfl K (os_call rfl ev63) rfl rfl fun _ K => ?_
    obtain ⟨kax, knx, vsx, Ax, Fx, rfl, hAx, B⟩ := B.newAu q63 nau63
    replace B := B.cast (M' := ((c10, 0, [.int .i64 (((tn : Nat) : Int)), kr2, kn]) :: (c9, 0, [.int .i64 ((((tn + 1) : Nat) : Int)), kr2, knw]) :: (c5, 0, [.int .i64 ((((tn + 1) : Nat) : Int)), ka, knw]) :: (c2, 0, [.int .i64 (((tn : Nat) : Int)), ka, kn]) :: (Ar ++ (Ax ++ [])))) (by first | (simp only [List.append_assoc, List.cons_append, List.nil_append, List.append_nil, List.set_cons_zero, List.set_cons_succ]; done) | (simp only [List.append_assoc, List.cons_append, List.nil_append, List.append_nil, List.set_cons_zero, List.set_cons_succ]; rfl))
    have M := B.mem
    have Mp := Mq
    have Mq := M
    refine wd_load1 rfl K rfl (M.load (k := 0) rfl (part_agg tk_api_Auto rfl)) (Mp.load (k := 0) rfl (part_agg tk_api_Auto rfl)) (eqV_agg (by simp [eqOk_str, eqOk_int, eqOk_bool, eqOk_len hAr.len, eqOk_len hN.len])) rfl (by decide) fun _ K => ?_
    obtain rfl := hcl.uniq hca2
    have wfy := wf.withAcc (acc := acc1) hcl.len
    have hty : m.tr = tn := htr2
    obtain ⟨v65, st65, ev65, rfl, q65⟩ := same24_ev (a := m) (b := ⟨tn, acc1, nx⟩) M.fresh hMd.wf wfy (Mem.accR (L := ((c10, 0, [.int .i64 (((tn : Nat) : Int)), kr2, kn]) :: (c9, 0, [.int .i64 ((((tn + 1) : Nat) : Int)), kr2, knw]) :: (c5, 0, [.int .i64 ((((tn + 1) : Nat) : Int)), ka, knw]) :: (c2, 0, [.int .i64 (((tn : Nat) : Int)), ka, kn]) :: (Ar ++ []))) (A := Ax) (B := []) (Mem.cast (M := ((c10, 0, [.int .i64 (((tn : Nat) : Int)), kr2, kn]) :: (c9, 0, [.int .i64 ((((tn + 1) : Nat) : Int)), kr2, knw]) :: (c5, 0, [.int .i64 ((((tn + 1) : Nat) : Int)), ka, knw]) :: (c2, 0, [.int .i64 (((tn : Nat) : Int)), ka, kn]) :: (Ar ++ (Ax ++ [])))) (M' := ((c10, 0, [.int .i64 (((tn : Nat) : Int)), kr2, kn]) :: (c9, 0, [.int .i64 ((((tn + 1) : Nat) : Int)), kr2, knw]) :: (c5, 0, [.int .i64 ((((tn + 1) : Nat) : Int)), ka, knw]) :: (c2, 0, [.int .i64 (((tn : Nat) : Int)), ka, kn]) :: (Ar ++ [])) ++ (Ax ++ [])) M (by first | (simp only [List.append_assoc, List.cons_append, List.nil_append, List.append_nil, List.set_cons_zero, List.set_cons_succ]; done) | (simp only [List.append_assoc, List.cons_append, List.nil_append, List.append_nil, List.set_cons_zero, List.set_cons_succ]; rfl))) hAx) (LsAt.r ((B.step M).at_ (k := 0) rfl)) (Mem.accR (L := [(c10, 0, [.int .i64 (((tn : Nat) : Int)), kr2, kn]), (c9, 0, [.int .i64 ((((tn + 1) : Nat) : Int)), kr2, knw]), (c5, 0, [.int .i64 ((((tn + 1) : Nat) : Int)), ka, knw]), (c2, 0, [.int .i64 (((tn : Nat) : Int)), ka, kn])]) (A := Ar) (B := (Ax ++ [])) M hAr) (hN.old hf fun c hc => (B.step M).old c hc id) hty.symm (new_like wf hkA hMd hty)
    refine dA rfl K (os_call rfl ev65) rfl rfl fun _ K => ?_
    replace M := M.quiet q65
    have Mp := Mq
    have Mq := M
    refine d1 rfl K (os_move rfl) rfl rfl fun _ K => ?_
    have ev67 := known22_ev
    refine dga rfl K rfl rfl (os_call rfl (ev67 _)) rfl rfl fun _ K => ?_
    have Mp := Mq
    have Mq := M
    refine d1 rfl K (os_pick rfl rfl rfl) rfl rfl fun _ K => d1 rfl K (os_assign rfl) rfl rfl fun _ K => wd_nil ?_
    show W _ _ _ _ _ _ _
    refine w_ret ?_
    refine ⟨.inr rfl, _, (res_one (rs_tmp K rfl)), ?_⟩
    rfl
   replace e48 : ¬ (0 = 0) := by first | simpa using e48 | (intro hq; rw [decide_eq_true hq] at e48; cases e48)
   exfalso; omega
  replace e20 := of_decide_eq_true e20
  refine gn K rfl rfl rfl rfl fun _ K => gn K rfl rfl rfl rfl fun _ K => gn K rfl rfl rfl rfl fun _ K => o1 K (os_pick rfl rfl rfl) rfl fun _ K => wr_nil ?_
  show W _ _ _ _ _ _ _
  refine w_cond (t := true) (K.opd rfl) (fun _ => ?_) (fun h => by cases h)
  refine w_seq <| w_region <| o1 K (os_assign rfl) rfl fun _ K => wr_nil ?_
  show W _ _ _ _ _ _ _
  refine w_ret ?_
  refine ⟨.inr rfl, _, (res_one (rs_tmp K rfl)), ?_⟩
  rfl
 replace e14 : (bm) = false := by first | simpa using e14 | (revert e14; cases (bm) <;> simp)
 refine gn K rfl rfl rfl rfl fun _ K => gn K rfl rfl rfl rfl fun _ K => gn K rfl rfl rfl rfl fun _ K => gn K rfl rfl rfl rfl fun _ K => o1 K (os_pick rfl rfl rfl) rfl fun _ K => o1 K (os_move rfl) rfl fun _ K => gn K rfl rfl rfl rfl fun _ K => gn K rfl rfl rfl rfl fun _ K => gn K rfl rfl rfl rfl fun _ K => ?_
 refine o1 K (os_pick rfl rfl rfl) rfl fun _ K => wr_nil ?_
 show W _ _ _ _ _ _ _
 refine w_cond (t := true) (K.opd rfl) (fun _ => ?_) (fun h => by cases h)
 refine w_seq <| w_region <| o1 K (os_assign rfl) rfl fun _ K => wr_nil ?_
 show W _ _ _ _ _ _ _
 refine w_ret ?_
 refine ⟨.inr rfl, _, (res_one (rs_tmp K rfl)), ?_⟩
 rfl
end Go.Proofs.YtiknomepbklibaaDoor
