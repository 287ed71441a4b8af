/-
  What hangs on letters: looked at.
-/
import Derived.Test.YtiknomepbklibaaGreatDoorZoBdM
import Derived.Test.YtiknomepbklibaaGreatDoorZoPlo
import Derived.Test.YtiknomepbklibaaGreatDoorZoPlq
namespace Go.Proofs.YtiknomepbklibaaGreatDoor
open Go Go.RowKit
set_option linter.unusedVariables false
set_option linter.unusedSimpArgs false
set_option linter.unnecessarySimpa false
set_option maxRecDepth 100000
set_option maxHeartbeats 1000000

/-- A Store that lies there. -/
structure StoI (st : St) (F : Fp) (sp T : Nat) (S : Sto) : Prop where
  at_ : StoAt st.h.get F sp T S
  hi : ∀ c, F c → c < st.n
theorem StoI.q {st st' : St} {F : Fp} {sp T : Nat} {S : Sto} (hS : StoI st F sp T S) (q : Qt st st') : StoI st' F sp T S := ⟨hS.at_.frame fun c hc => q.old c (hS.hi c hc), fun c hc => Nat.lt_of_lt_of_le (hS.hi c hc) q.le⟩
theorem MemO.sto {st0 st : St} {X0 F : Fp} {M : Rows2} {Os : List Ob} {sp T : Nat} {S : Sto} (B : MemO st0 X0 st M Os) {k : Nat} (hk : Os[k]? = some (stoO F sp T S)) : StoI st F sp T S := ⟨B.at_ hk, B.hi_ hk⟩
def bnTr : Bn → Int
 | .leaf _ => 0
 | .fork t _ _ => ((t : Nat) : Int)
def bnLo : Bn → Nat
 | .leaf _ => 0
 | .fork _ l _ => l
def bnHi : Bn → Nat
 | .leaf _ => 0
 | .fork _ _ h => h
def bnFk : Bn → Bool
 | .leaf _ => false
 | .fork _ _ _ => true
theorem lvl_bn {T : Nat} {S : Sto} {i : Nat} {n : Bn} (h : S[i]? = some n) : lvl T S i = if bnFk n then (bnTr n).toNat else T := by
 unfold lvl; rw [h]; cases n <;> simp [bnFk, bnTr]
theorem asI_bn (n : Bn) : asIfc Tryz.prog (bnV n) 195 true = some (.tup [.agg [.int .i64 (bnTr n), .int .i64 ((bnLo n : Nat) : Int), .int .i64 ((bnHi n : Nat) : Int)], .bool (bnFk n)]) := by
 cases n with
 | leaf v => exact asI_leaf _
 | fork t l h => exact asI_fork _
/-- A node's value, asked of it. -/
def AtC (F : Fp) (sp Tn : Nat) (S : Sto) (c j : Nat) : Prop := ∀ (st : St) (n : Bn), Fresh st → StoI st F sp Tn S → S[j]? = some n →
  ∃ t u fid v st', bnV n = .ifc t u ∧ methA Tryz.prog t "sibyl/bdd.at" = some fid ∧ Ev Tryz.prog envP fid [u, .ptr sp 0 0, .int .i64 ((c : Nat) : Int)] st v st' ∧ v = .int .i64 (evS S j c) ∧ Qt st st'
/-- Where the first one is of which this holds. -/
def idxP {α : Type} (p : α → Bool) : List α → Nat → Int
  | [], _ => -1
  | k :: l, i => if p k then (i : Int) else idxP p l (i + 1)
theorem idxP_step {α : Type} {p : α → Bool} {l : List α} {i : Nat} {k : α} (h : l[i]? = some k) : idxP p (l.drop i) i = if p k then (i : Int) else idxP p (l.drop (i + 1)) (i + 1) := by
 obtain ⟨h1, h2⟩ := List.getElem?_eq_some_iff.1 h
 rw [List.drop_eq_getElem_cons h1, idxP, h2]
theorem idxP_end {α : Type} {p : α → Bool} {l : List α} {i : Nat} (h : l.length ≤ i) : idxP p (l.drop i) i = -1 := by rw [List.drop_eq_nil_of_le h]; rfl
theorem idxP_any {α : Type} (p : α → Bool) : ∀ (l : List α) (i : Nat), decide (0 ≤ idxP p l i) = l.any p := by
 intro l
 induction l with
 | nil => intro i; rfl
 | cons k l ih =>
  intro i
  rw [idxP, List.any_cons]
  cases hp : p k with
  | true => rw [if_pos rfl]; simp
  | false => rw [if_neg (by decide), ih]; rfl

theorem bTracks_ev {st : St} (hf : Fresh st) {F : Fp} {sp Tn : Nat} {S : Sto} (hS : StoI st F sp Tn S) : ∃ v st', Ev Tryz.prog envP 64 [.ptr sp 0 0] st v st' ∧ v = .int .i64 ((Tn : Nat) : Int) ∧ Qt st st' := by
 obtain ⟨ks, cm, hrow, hrd, hlen, hbn⟩ := hS.at_.rd
 refine ev_fn rfl Tryz.func64 rfl Tryz.ntmps64 rfl (by decide) (by simp) fun T hT => ?_
 have K : KnT [(0, _)] T := (.cons (hT 0) .nil)
 have M := Mem.start hf
 refine w_seq <| w_region <| o1 K (os_assign rfl) rfl fun _ K => wr_nil ?_
 show W _ _ _ _ _ _ _
 refine w_seq <| w_seq <| w_region <| o1 K (os_move rfl) rfl fun _ K => o1 K (os_eqPN un_P_bdd_Store rfl rfl) rfl fun _ K => wr_nil ?_
 show W _ _ _ _ _ _ _
 refine w_cond (t := false) (K.opd rfl) (fun h => by cases h) (fun _ => ?_)
 refine w_skip ?_
 show W _ _ _ _ _ _ _
 refine w_seq <| w_region <| o1 K (os_move rfl) rfl fun _ K => o1 K (os_nil rfl rfl) rfl fun _ K => o1 K (os_fieldAddr fo_bdd_Store_0 rfl) rfl fun _ K => o1 K (os_load rfl (ld_row (M.rowX (by simp) hrow.rowV) (part_one tk_int rfl))) rfl fun _ K => o1 K (os_assign rfl) rfl fun _ K => wr_nil ?_
 show W _ _ _ _ _ _ _
 refine w_ret ?_
 refine ⟨.inr rfl, _, (res_one (rs_tmp K rfl)), ?_⟩
 exact ⟨rfl, M.qt⟩

theorem bLen_ev {st : St} (hf : Fresh st) {F : Fp} {sp Tn : Nat} {S : Sto} (hS : StoI st F sp Tn S) : ∃ v st', Ev Tryz.prog envP 97 [.ptr sp 0 0] st v st' ∧ v = .int .i64 ((S.length : Nat) : Int) ∧ Qt st st' := by
 obtain ⟨ks, cm, hrow, hrd, hlen, hbn⟩ := hS.at_.rd
 refine ev_fn rfl Tryz.func97 rfl Tryz.ntmps97 rfl (by decide) (by simp) fun T hT => ?_
 have K : KnT [(0, _)] T := (.cons (hT 0) .nil)
 have M := Mem.start hf
 refine w_seq <| w_region <| o1 K (os_assign rfl) rfl fun _ K => wr_nil ?_
 show W _ _ _ _ _ _ _
 refine w_seq <| w_seq <| w_region <| o1 K (os_move rfl) rfl fun _ K => o1 K (os_eqPN un_P_bdd_Store rfl rfl) rfl fun _ K => wr_nil ?_
 show W _ _ _ _ _ _ _
 refine w_cond (t := false) (K.opd rfl) (fun h => by cases h) (fun _ => ?_)
 refine w_skip ?_
 show W _ _ _ _ _ _ _
 refine w_seq <| w_region <| o1 K (os_move rfl) rfl fun _ K => o1 K (os_nil rfl rfl) rfl fun _ K => o1 K (os_fieldAddr fo_bdd_Store_1 rfl) rfl fun _ K => o1 K (os_load rfl (ld_row (M.rowX (by simp) hrow.rowV) (part_one tk_S_bdd_node rfl))) rfl fun _ K => o1 K (os_lenL un_S_bdd_node rfl rfl hlen) rfl fun _ K => o1 K (os_assign rfl) rfl fun _ K => wr_nil ?_
 show W _ _ _ _ _ _ _
 refine w_ret ?_
 refine ⟨.inr rfl, _, (res_one (rs_tmp K rfl)), ?_⟩
 exact ⟨rfl, M.qt⟩

theorem bIs_ev {st : St} (hf : Fresh st) {F : Fp} {sp Tn : Nat} {S : Sto} (hS : StoI st F sp Tn S) {i : Nat} (hi : i < S.length) : ∃ v st', Ev Tryz.prog envP 73 [.ptr sp 0 0, .int .i64 (((i : Nat) : Int))] st v st' ∧ v = .bool true ∧ Qt st st' := by
 obtain ⟨ks, cm, hrow, hrd, hlen, hbn⟩ := hS.at_.rd
 refine ev_fn rfl Tryz.func73 rfl Tryz.ntmps73 rfl (by decide) (by simp) fun T hT => ?_
 have K : KnT [(0, _), (1, _)] T := (.cons (hT 0) (.cons (hT 1) .nil))
 have M := Mem.start hf
 refine w_seq <| w_region <| o1 K (os_assign rfl) rfl fun _ K => wr_nil ?_
 show W _ _ _ _ _ _ _
 refine w_seq <| w_region <| o1 K (os_move rfl) rfl fun _ K => o1 K (os_geq rfl rfl) rfl fun _ K => ?_
 refine oB K (os_move rfl) rfl fun b7 _ e7 K => ?_
 cases b7
 ·replace e7 := of_decide_eq_false e7
  exfalso; omega
 replace e7 := of_decide_eq_true e7
 refine og K rfl rfl (os_move rfl) rfl fun _ K => og K rfl rfl (os_move rfl) rfl fun _ K => ?_
 obtain ⟨v10, st10, ev10, rfl, q10⟩ := bLen_ev M.fresh (hS.q M.qt)
 refine og K rfl rfl (os_call rfl ev10) rfl fun _ K => ?_
 replace M := M.quiet q10
 refine og K rfl rfl (os_lss rfl rfl) rfl fun _ K => o1 K (os_pick rfl rfl rfl) rfl fun _ K => o1 K (os_assign rfl) rfl fun _ K => wr_nil ?_
 show W _ _ _ _ _ _ _
 refine w_ret ?_
 refine ⟨.inr rfl, _, (res_one (rs_tmp K rfl)), ?_⟩
 exact ⟨congrArg AV.bool (decide_eq_true (by omega)), M.qt⟩

theorem bBelow_ev {st : St} (hf : Fresh st) {F : Fp} {sp Tn : Nat} {S : Sto} (hS : StoI st F sp Tn S) {i : Nat} (hi : i < S.length) (t : Nat) (ht : t < Tn) : ∃ v st', Ev Tryz.prog envP 151 [.ptr sp 0 0, .int .i64 (((i : Nat) : Int)), .int .i64 (((t : Nat) : Int))] st v st' ∧ v = .bool (decide (t < lvl Tn S i)) ∧ Qt st st' := by
 obtain ⟨ks, cm, hrow, hrd, hlen, hbn⟩ := hS.at_.rd
 refine ev_fn rfl Tryz.func151 rfl Tryz.ntmps151 rfl (by decide) (by simp) fun T hT => ?_
 have K : KnT [(0, _), (1, _), (2, _)] T := (.cons (hT 0) (.cons (hT 1) (.cons (hT 2) .nil)))
 have M := Mem.start hf
 refine w_seq <| w_region <| o1 K (os_assign rfl) rfl fun _ K => wr_nil ?_
 show W _ _ _ _ _ _ _
 refine w_seq <| w_seq <| w_region <| o1 K (os_move rfl) rfl fun _ K => o1 K (os_move rfl) rfl fun _ K => ?_
 obtain ⟨v11, st11, ev11, rfl, q11⟩ := bIs_ev M.fresh (hS.q M.qt) hi
 refine o1 K (os_call rfl ev11) rfl fun _ K => ?_
 replace M := M.quiet q11
 refine o1 K (os_not rfl) rfl fun _ K => wr_nil ?_
 show W _ _ _ _ _ _ _
 refine w_cond (t := false) (K.opd rfl) (fun h => by cases h) (fun _ => ?_)
 refine w_skip ?_
 show W _ _ _ _ _ _ _
 refine w_seq <| w_region <| o1 K (os_move rfl) rfl fun _ K => o1 K (os_nil rfl rfl) rfl fun _ K => o1 K (os_fieldAddr fo_bdd_Store_1 rfl) rfl fun _ K => o1 K (os_load rfl (ld_row (M.rowX (by simp) hrow.rowV) (part_one tk_S_bdd_node rfl))) rfl fun _ K => o1 K (os_move rfl) rfl fun _ K => ?_
 obtain ⟨n19, hn19⟩ : ∃ x, S[i]? = some x := ⟨_, List.getElem?_eq_getElem (by omega)⟩
 obtain ⟨x19, m19, f19, q19, _, la19, lo19, lp19⟩ := (RdR.mem M hrd (by simp)).load (i := i) (cs := _) (by rw [List.getElem?_map, hn19]; rfl)
 refine o1 K (os_indexAddr (j := i) el_S_bdd_node (congrArg some q19) rfl (by rw [List.length_map]; omega)) rfl fun _ K => o1 K (os_load rfl (lo19 _ 0 _ tk_bdd_node rfl)) rfl fun _ K => o1 K (os_asIfc rfl (asI_bn n19)) rfl fun _ K => o1 K (os_move rfl) rfl fun _ K => o1 K (os_extract rfl rfl) rfl fun _ K => o1 K (os_extract rfl rfl) rfl fun _ K => ?_
 refine wr_alloc K M ze_bdd_fork (by decide) fun c7 _ _ K M => ?_
 refine wr_store (k := 0) K M rfl rfl rfl sz_bdd_fork rfl rfl rfl fun _ M => ?_
 refine o1 K (os_assign rfl) rfl fun _ K => wr_nil ?_
 show W _ _ _ _ _ _ _
 refine w_seq <| w_region <| o1 K (os_move rfl) rfl fun _ K => o1 K (os_not rfl) rfl fun _ K => ?_
 refine oB K (os_move rfl) rfl fun b26 _ e26 K => ?_
 cases b26
 ·replace e26 : ((bnFk n19)) = true := by first | simpa using e26 | (revert e26; cases ((bnFk n19)) <;> simp)
  refine og K rfl rfl (os_fieldAddr fo_bdd_fork_0 rfl) rfl fun _ K => og K rfl rfl (os_load rfl (M.load (k := 0) rfl (part_one tk_int rfl))) rfl fun _ K => og K rfl rfl (os_move rfl) rfl fun _ K => og K rfl rfl (os_gtr rfl rfl) rfl fun _ K => o1 K (os_pick rfl rfl rfl) rfl fun _ K => o1 K (os_assign rfl) rfl fun _ K => wr_nil ?_
  show W _ _ _ _ _ _ _
  refine w_ret ?_
  refine ⟨.inr rfl, _, (res_one (rs_tmp K rfl)), ?_⟩
  refine ⟨?_, M.qt⟩
  rw [lvl_bn hn19]
  cases n19 with
  | leaf v => first | (cases e26; done) | (rw [if_neg (show ¬ bnFk (Bn.leaf v) = true by simp [bnFk]), decide_eq_true ht]; rfl)
  | fork t' l h => first | (cases e26; done) | (refine congrArg AV.bool (decide_eq_decide.2 ?_); rw [if_pos (show bnFk (Bn.fork t' l h) = true from rfl)]; simp only [bnTr]; omega)
 replace e26 : ((bnFk n19)) = false := by first | simpa using e26 | (revert e26; cases ((bnFk n19)) <;> simp)
 refine gn K rfl rfl rfl rfl fun _ K => gn K rfl rfl rfl rfl fun _ K => gn K rfl rfl rfl rfl fun _ K => gn K rfl rfl rfl rfl fun _ K => o1 K (os_pick rfl rfl rfl) rfl fun _ K => o1 K (os_assign rfl) rfl fun _ K => wr_nil ?_
 show W _ _ _ _ _ _ _
 refine w_ret ?_
 refine ⟨.inr rfl, _, (res_one (rs_tmp K rfl)), ?_⟩
 refine ⟨?_, M.qt⟩
 rw [lvl_bn hn19]
 cases n19 with
 | leaf v => first | (cases e26; done) | (rw [if_neg (show ¬ bnFk (Bn.leaf v) = true by simp [bnFk]), decide_eq_true ht]; rfl)
 | fork t' l h => first | (cases e26; done) | (refine congrArg AV.bool (decide_eq_decide.2 ?_); rw [if_pos (show bnFk (Bn.fork t' l h) = true from rfl)]; simp only [bnTr]; omega)

theorem leafAt_ev {st : St} (hf : Fresh st) (v0 : Int) (u w : AV) : ∃ v st', Ev Tryz.prog envP 211 [.agg [.int .i64 v0], u, w] st v st' ∧ v = .int .i64 v0 ∧ Qt st st' := by
 refine ev_fn rfl Tryz.func211 rfl Tryz.ntmps211 rfl (by decide) (by simp) fun T hT => ?_
 have K : KnT [(0, _), (1, _), (2, _)] T := (.cons (hT 0) (.cons (hT 1) (.cons (hT 2) .nil)))
 have M := Mem.start hf
 refine w_seq <| w_region ?_
 refine wr_box K M rfl rfl (by decide) fun c3 _ _ K M => ?_
 refine o1 K (os_assign rfl) rfl fun _ K => wr_nil ?_
 show W _ _ _ _ _ _ _
 refine w_seq <| w_region <| o1 K (os_fieldAddr fo_bdd_leaf_0 rfl) rfl fun _ K => o1 K (os_load rfl (M.load (k := 0) rfl (part_one tk_int rfl))) rfl fun _ K => o1 K (os_assign rfl) rfl fun _ K => wr_nil ?_
 show W _ _ _ _ _ _ _
 refine w_ret ?_
 refine ⟨.inr rfl, _, (res_one (rs_tmp K rfl)), ?_⟩
 exact ⟨rfl, M.qt⟩

theorem forkAt_ev {st : St} (hf : Fresh st) {F : Fp} {sp Tn : Nat} {S : Sto} (hS : StoI st F sp Tn S) (h6 : Tn ≤ 6) (wf : WFS Tn S) {i t l h c : Nat} (hn : S[i]? = some (.fork t l h)) (hc : c ≤ 4611686018427387904) (ih : ∀ j, j < i → AtC F sp Tn S c j) : ∃ v st', Ev Tryz.prog envP 212 [.agg [.int .i64 (((t : Nat) : Int)), .int .i64 (((l : Nat) : Int)), .int .i64 (((h : Nat) : Int))], .ptr sp 0 0, .int .i64 (((c : Nat) : Int))] st v st' ∧ v = .int .i64 (evS S i c) ∧ Qt st st' := by
 obtain ⟨ks, cm, hrow, hrd, hlen, hbn⟩ := hS.at_.rd
 obtain ⟨w1, w2, w3, w4, w5, w6⟩ := wf.fork _ _ _ _ hn
 have hil := (List.getElem?_eq_some_iff.1 hn).1
 refine ev_fn rfl Tryz.func212 rfl Tryz.ntmps212 rfl (by decide) (by simp) fun T hT => ?_
 have K : KnT [(0, _), (1, _), (2, _)] T := (.cons (hT 0) (.cons (hT 1) (.cons (hT 2) .nil)))
 have M := Mem.start hf
 refine w_seq <| w_region ?_
 refine wr_box K M rfl rfl (by decide) fun c3 _ _ K M => ?_
 refine o1 K (os_assign rfl) rfl fun _ K => wr_nil ?_
 show W _ _ _ _ _ _ _
 refine w_seq <| w_seq <| w_region <| o1 K (os_move rfl) rfl fun _ K => o1 K (os_fieldAddr fo_bdd_fork_0 rfl) rfl fun _ K => o1 K (os_load rfl (M.load (k := 0) rfl (part_one tk_int rfl))) rfl fun _ K => o1 K (os_shrN (a := c) (n := t) rfl rfl (by omega)) rfl fun _ K => o1 K (os_and1 (a := (c / 2 ^ t)) rfl rfl (Nat.le_trans (Nat.div_le_self _ _) (by omega))) rfl fun _ K => o1 K (os_eqI rfl rfl) rfl fun _ K => ?_
 refine wr_nil ?_
 show W _ _ _ _ _ _ _
 refine w_cond (K.opd rfl) (fun h12 => ?_) (fun h12 => ?_)
 ·have hb12 := h12
  replace h12 := of_decide_eq_true h12
  refine w_seq ?_
  refine w_drawI (l := [(0, 0), (1, 0), (2, 0), (3, 0), (4, 0), (5, 0), (6, 0), (7, 0), (8, 0), (9, 0), (10, 0), (11, 0)]) (by kernel_rfl) ?_
  refine d1 rfl K (os_move rfl) rfl rfl fun _ K => d1 rfl K (os_nil rfl rfl) rfl rfl fun _ K => d1 rfl K (os_fieldAddr fo_bdd_Store_1 rfl) rfl rfl fun _ K => d1 rfl K (os_load rfl (ld_row (M.rowX (by simp) hrow.rowV) (part_one tk_S_bdd_node rfl))) rfl rfl fun _ K => d1 rfl K (os_fieldAddr fo_bdd_fork_2 rfl) rfl rfl fun _ K => d1 rfl K (os_load rfl (M.load (k := 0) rfl (part_one tk_int rfl))) rfl rfl fun _ K => ?_
  obtain ⟨n19, hn19⟩ : ∃ x, S[h]? = some x := ⟨_, List.getElem?_eq_getElem (by omega)⟩
  obtain ⟨x19, m19, f19, q19, _, la19, lo19, lp19⟩ := (RdR.mem M hrd (by simp)).load (i := h) (cs := _) (by rw [List.getElem?_map, hn19]; rfl)
  refine d1 rfl K (os_indexAddr (j := h) el_S_bdd_node (congrArg some q19) rfl (by rw [List.length_map]; omega)) rfl rfl fun _ K => d1 rfl K (os_load rfl (lo19 _ 0 _ tk_bdd_node rfl)) rfl rfl fun _ K => d1 rfl K (os_move rfl) rfl rfl fun _ K => d1 rfl K (os_move rfl) rfl rfl fun _ K => ?_
  obtain ⟨tt23, uu23, ff23, v23, st23, ei23, em23, ev23, rfl, q23⟩ := ih h (by omega) _ _ M.fresh (hS.q M.qt) hn19
  refine dA rfl K (os_invoke (show opK _ _ _ = _ from congrArg some ei23) em23 rfl ev23) rfl rfl fun _ K => ?_
  replace M := M.quiet q23
  refine d1 rfl K (os_assign rfl) rfl rfl fun _ K => wd_nil ?_
  show W _ _ _ _ _ _ _
  refine w_ret ?_
  refine ⟨.inr rfl, _, (res_one (rs_tmp K rfl)), ?_⟩
  exact ⟨by rw [ev_fork wf hn, if_pos ((bit_div c t).1 h12)], M.qt⟩
 have hb12 := h12
 replace h12 := of_decide_eq_false h12
 refine w_skip ?_
 show W _ _ _ _ _ _ _
 refine w_seq ?_
 refine w_drawI (l := [(0, 0), (1, 0), (2, 0), (3, 0), (4, 0), (5, 0), (6, 0), (7, 0), (8, 0), (9, 0), (10, 0), (11, 0)]) (by kernel_rfl) ?_
 refine d1 rfl K (os_move rfl) rfl rfl fun _ K => d1 rfl K (os_nil rfl rfl) rfl rfl fun _ K => d1 rfl K (os_fieldAddr fo_bdd_Store_1 rfl) rfl rfl fun _ K => d1 rfl K (os_load rfl (ld_row (M.rowX (by simp) hrow.rowV) (part_one tk_S_bdd_node rfl))) rfl rfl fun _ K => d1 rfl K (os_fieldAddr fo_bdd_fork_1 rfl) rfl rfl fun _ K => d1 rfl K (os_load rfl (M.load (k := 0) rfl (part_one tk_int rfl))) rfl rfl fun _ K => ?_
 obtain ⟨n30, hn30⟩ : ∃ x, S[l]? = some x := ⟨_, List.getElem?_eq_getElem (by omega)⟩
 obtain ⟨x30, m30, f30, q30, _, la30, lo30, lp30⟩ := (RdR.mem M hrd (by simp)).load (i := l) (cs := _) (by rw [List.getElem?_map, hn30]; rfl)
 refine d1 rfl K (os_indexAddr (j := l) el_S_bdd_node (congrArg some q30) rfl (by rw [List.length_map]; omega)) rfl rfl fun _ K => d1 rfl K (os_load rfl (lo30 _ 0 _ tk_bdd_node rfl)) rfl rfl fun _ K => d1 rfl K (os_move rfl) rfl rfl fun _ K => d1 rfl K (os_move rfl) rfl rfl fun _ K => ?_
 obtain ⟨tt34, uu34, ff34, v34, st34, ei34, em34, ev34, rfl, q34⟩ := ih l (by omega) _ _ M.fresh (hS.q M.qt) hn30
 refine dA rfl K (os_invoke (show opK _ _ _ = _ from congrArg some ei34) em34 rfl ev34) rfl rfl fun _ K => ?_
 replace M := M.quiet q34
 refine d1 rfl K (os_assign rfl) rfl rfl fun _ K => wd_nil ?_
 show W _ _ _ _ _ _ _
 refine w_ret ?_
 refine ⟨.inr rfl, _, (res_one (rs_tmp K rfl)), ?_⟩
 exact ⟨by rw [ev_fork wf hn, if_neg fun hb => h12 ((bit_div c t).2 hb)], M.qt⟩

theorem at_all {F : Fp} {sp Tn : Nat} {S : Sto} (h6 : Tn ≤ 6) (wf : WFS Tn S) {c : Nat} (hc : c ≤ 4611686018427387904) : ∀ j, j < S.length → AtC F sp Tn S c j := by
 intro j
 induction j using Nat.strongRecOn with
 | _ j ih =>
  intro hj st n hf hS hn
  cases n with
  | leaf v =>
   obtain ⟨v', st', ev, rfl, q⟩ := leafAt_ev hf v (.ptr sp 0 0) (.int .i64 ((c : Nat) : Int))
   exact ⟨_, _, _, _, st', rfl, me_leaf, ev, by rw [ev_leaf hn], q⟩
  | fork t l h =>
   obtain ⟨v', st', ev, rfl, q⟩ := forkAt_ev hf hS h6 wf hn hc fun k hk => ih k hk (by omega)
   exact ⟨_, _, _, _, st', rfl, me_fork, ev, rfl, q⟩

theorem bAt_ev {st : St} (hf : Fresh st) {F : Fp} {sp Tn : Nat} {S : Sto} (hS : StoI st F sp Tn S) (h6 : Tn ≤ 6) (wf : WFS Tn S) {i : Nat} (hi : i < S.length) {c : Nat} (hc : c < 2 ^ Tn) : ∃ v st', Ev Tryz.prog envP 74 [.ptr sp 0 0, .int .i64 (((i : Nat) : Int)), .int .i64 (((c : Nat) : Int))] st v st' ∧ v = .int .i64 (evS S i c) ∧ Qt st st' := by
 obtain ⟨ks, cm, hrow, hrd, hlen, hbn⟩ := hS.at_.rd
 have hp := pow_le62 (show Tn ≤ 62 by omega)
 refine ev_fn rfl Tryz.func74 rfl Tryz.ntmps74 rfl (by decide) (by simp) fun T hT => ?_
 have K : KnT [(0, _), (1, _), (2, _)] T := (.cons (hT 0) (.cons (hT 1) (.cons (hT 2) .nil)))
 have M := Mem.start hf
 refine w_seq <| w_region <| o1 K (os_assign rfl) rfl fun _ K => wr_nil ?_
 show W _ _ _ _ _ _ _
 refine w_seq <| w_seq <| w_region <| o1 K (os_move rfl) rfl fun _ K => o1 K (os_move rfl) rfl fun _ K => ?_
 obtain ⟨v9, st9, ev9, rfl, q9⟩ := bIs_ev M.fresh (hS.q M.qt) hi
 refine o1 K (os_call rfl ev9) rfl fun _ K => ?_
 replace M := M.quiet q9
 refine o1 K (os_not rfl) rfl fun _ K => o1 K (os_move rfl) rfl fun _ K => og K rfl rfl (os_move rfl) rfl fun _ K => og K rfl rfl (os_lss rfl rfl) rfl fun _ K => o1 K (os_pick rfl rfl rfl) rfl fun _ K => ?_
 refine oB K (os_move rfl) rfl fun b15 _ e15 K => ?_
 cases b15
 ·replace e15 := of_decide_eq_false e15
  refine og K rfl rfl (os_move rfl) rfl fun _ K => og K rfl rfl (os_move rfl) rfl fun _ K => ?_
  obtain ⟨v18, st18, ev18, rfl, q18⟩ := bTracks_ev M.fresh (hS.q M.qt)
  refine og K rfl rfl (os_call rfl ev18) rfl fun _ K => ?_
  replace M := M.quiet q18
  refine og K rfl rfl (os_shl1 (n := Tn) rfl rfl (by omega)) rfl fun _ K => og K rfl rfl (os_geq rfl rfl) rfl fun _ K => o1 K (os_pick rfl rfl rfl) rfl fun _ K => wr_nil ?_
  show W _ _ _ _ _ _ _
  refine w_cond (K.opd rfl) (fun h21 => ?_) (fun h21 => ?_)
  ·have hb21 := h21
   replace h21 := of_decide_eq_true h21
   exfalso; omega
  have hb21 := h21
  replace h21 := of_decide_eq_false h21
  refine w_skip ?_
  show W _ _ _ _ _ _ _
  refine w_seq <| w_region <| o1 K (os_move rfl) rfl fun _ K => o1 K (os_nil rfl rfl) rfl fun _ K => o1 K (os_fieldAddr fo_bdd_Store_1 rfl) rfl fun _ K => o1 K (os_load rfl (ld_row (M.rowX (by simp) hrow.rowV) (part_one tk_S_bdd_node rfl))) rfl fun _ K => o1 K (os_move rfl) rfl fun _ K => ?_
  obtain ⟨n27, hn27⟩ : ∃ x, S[i]? = some x := ⟨_, List.getElem?_eq_getElem (by omega)⟩
  obtain ⟨x27, m27, f27, q27, _, la27, lo27, lp27⟩ := (RdR.mem M hrd (by simp)).load (i := i) (cs := _) (by rw [List.getElem?_map, hn27]; rfl)
  refine o1 K (os_indexAddr (j := i) el_S_bdd_node (congrArg some q27) rfl (by rw [List.length_map]; omega)) rfl fun _ K => o1 K (os_load rfl (lo27 _ 0 _ tk_bdd_node rfl)) rfl fun _ K => o1 K (os_move rfl) rfl fun _ K => o1 K (os_move rfl) rfl fun _ K => ?_
  obtain ⟨tt31, uu31, ff31, v31, st31, ei31, em31, ev31, rfl, q31⟩ := at_all (c := c) h6 wf (by omega) _ hi _ _ M.fresh (hS.q M.qt) hn27
  refine o1 K (os_invoke (show opK _ _ _ = _ from congrArg some ei31) em31 rfl ev31) rfl fun _ K => ?_
  replace M := M.quiet q31
  refine o1 K (os_assign rfl) rfl fun _ K => wr_nil ?_
  show W _ _ _ _ _ _ _
  refine w_ret ?_
  refine ⟨.inr rfl, _, (res_one (rs_tmp K rfl)), ?_⟩
  exact ⟨rfl, M.qt⟩
 replace e15 := of_decide_eq_true e15
 exfalso; omega
end Go.Proofs.YtiknomepbklibaaGreatDoor
