/-
  What hangs on letters: made.
-/
import Derived.Test.YtiknomepbklibaaGreatDoorZoBdA
namespace Go.Proofs.YtiknomepbklibaaGreatDoor
open Go Go.RowKit
set_option linter.unusedVariables false
set_option linter.unusedSimpArgs false
set_option linter.unnecessarySimpa false
set_option maxRecDepth 100000
set_option maxHeartbeats 2000000

theorem pow_le64 {T : Nat} (h : T ≤ 6) : 2 ^ T ≤ 64 := Nat.le_trans (Nat.pow_le_pow_right (by decide) h) (by decide)
theorem rowB_take {T : Nat} (S : Sto) (i : Nat) {c : Nat} (h : c < 2 ^ T) : (rowB T S i).take (c + 1) = (rowB T S i).take c ++ [evS S i c] := by
 rw [List.take_add_one, rowB_get S i h]; rfl
/-- A letter's place in a row from a track on. -/
def ixB (t a c : Nat) : Nat := a + c / 2 ^ t * 2 ^ t
theorem ixB_low {t a c : Nat} (h : c.testBit t = false) : ixB (t + 1) a c = ixB t a c := by
 unfold ixB
 have h1 : c / 2 ^ t % 2 = 0 := by
  rw [Nat.testBit_eq_decide_div_mod_eq, decide_eq_false_iff_not] at h; omega
 have h2 : c / 2 ^ (t + 1) = c / 2 ^ t / 2 := by rw [Nat.pow_succ, Nat.div_div_eq_div_mul]
 rw [h2, Nat.pow_succ]
 have h3 : c / 2 ^ t / 2 * 2 = c / 2 ^ t := by omega
 rw [Nat.mul_comm (2 ^ t) 2, ← Nat.mul_assoc, h3]
theorem ixB_high {t a c : Nat} (h : c.testBit t = true) : ixB (t + 1) (a + 2 ^ t) c = ixB t a c := by
 unfold ixB
 have h1 : c / 2 ^ t % 2 = 1 := by
  rw [Nat.testBit_eq_decide_div_mod_eq, decide_eq_true_eq] at h; exact h
 have h2 : c / 2 ^ (t + 1) = c / 2 ^ t / 2 := by rw [Nat.pow_succ, Nat.div_div_eq_div_mul]
 rw [h2, Nat.pow_succ]
 have h3 : c / 2 ^ t / 2 * 2 + 1 = c / 2 ^ t := by omega
 rw [Nat.mul_comm (2 ^ t) 2, ← Nat.mul_assoc]
 conv => rhs; rw [← h3]
 rw [Nat.succ_mul]
 omega
theorem or_low {t a : Nat} (h : a < 2 ^ t) : a ||| 2 ^ t = a + 2 ^ t := by
 have := Nat.two_pow_add_eq_or_of_lt h 1
 rw [Nat.mul_one] at this
 rw [Nat.or_comm, ← this, Nat.add_comm]
theorem os_orE {P : Program} {G : Env} {K : List (Nat × AV)} {st : St} {t yt : TypeId} {x y : Operand} {a b e : Nat} (he : a ||| b = e) (hx : opK G K x = some (.int .i64 ((a : Nat) : Int))) (hy : opK G K y = some (.int .i64 ((b : Nat) : Int))) (ha : a ≤ 9223372036854775807) (hb : b ≤ 9223372036854775807) : OpS P G K (.binOp .or t x y yt) st (.int .i64 ((e : Nat) : Int)) st := he ▸ os_orN hx hy ha hb
theorem MadeB.more {T : Nat} {S S' : Sto} {k k' i : Nat} (h : MadeB T S k S' i) (hk : k ≤ k') : MadeB T S k' S' i := ⟨h.wf, h.pre, h.lt, Nat.le_trans h.len (by omega)⟩
theorem bRow_ev {st : St} (hf : Fresh st) {F : Fp} {sp Tn : Nat} {S : Sto} (hS : StoI st F sp Tn S) (h6 : Tn ≤ 6) (wf : WFS Tn S) {i : Nat} (hi : i < S.length) : ∃ v st', Ev Tryz.prog envP 49 [.ptr sp 0 0, .int .i64 (((i : Nat) : Int))] st v st' ∧ ∃ kr, v = kr ∧ NewR st st' 1 kr (zC (rowB Tn S i)) ∧ Qt st st' := by
 have hp := pow_le64 h6
 refine ev_fn rfl Tryz.func49 rfl Tryz.ntmps49 rfl (by decide) (by simp) fun T hT => ?_
 have K : KnT [(0, _), (1, _)] T := (.cons (hT 0) (.cons (hT 1) .nil))
 have M := Mem.start hf
 refine w_seq <| w_region <| o1 K (os_assign rfl) rfl fun _ K => wr_nil ?_
 show W _ _ _ _ _ _ _
 refine w_seq <| w_seq <| w_region <| o1 K (os_move rfl) rfl fun _ K => o1 K (os_move rfl) rfl fun _ K => ?_
 obtain ⟨v9, st9, ev9, rfl, q9⟩ := bIs_ev M.fresh (hS.q M.qt) hi
 refine o1 K (os_call rfl ev9) rfl fun _ K => ?_
 replace M := M.quiet q9
 refine o1 K (os_not rfl) rfl fun _ K => wr_nil ?_
 show W _ _ _ _ _ _ _
 refine w_cond (t := false) (K.opd rfl) (fun h => by cases h) (fun _ => ?_)
 refine w_skip ?_
 show W _ _ _ _ _ _ _
 refine w_seq <| w_region <| o1 K (os_assign rfl) rfl fun _ K => wr_nil ?_
 show W _ _ _ _ _ _ _
 refine w_seq <| w_seq <| w_region <| o1 K (os_move rfl) rfl fun _ K => ?_
 obtain ⟨v12, st12, ev12, rfl, q12⟩ := bTracks_ev M.fresh (hS.q M.qt)
 refine o1 K (os_call rfl ev12) rfl fun _ K => ?_
 replace M := M.quiet q12
 refine o1 K (os_shl1 (n := Tn) rfl rfl (by omega)) rfl fun _ K => o1 K (os_move rfl) rfl fun _ K => wr_nil ?_
 show W _ _ _ _ _ _ _
 refine w_block ?_
 refine w_loop (fun mm1 T st9 => ∃ (c : Nat) (kr : AV) (A : Rows1), mm1 = 2 ^ Tn - c ∧ KnT [(0, .ptr sp 0 0), (1, .int .i64 (((i : Nat) : Int))), (4, .nils), (5, kr), (13, .int .i64 (((2 ^ Tn : Nat) : Int))), (14, .int .i64 (((c : Nat) : Int)))] T ∧ Mem st.h.get st.n [] st9 (A ++ []) ∧ Acc st.n 1 A kr (zC ((rowB Tn S i).take c)) ∧ c ≤ 2 ^ Tn) (fun mm1 T st9 hI => ?_) _ _ _ ⟨0, .nils, [], rfl, (.cons (K _ _ rfl) (.cons (K _ _ rfl) (.cons (K _ _ rfl) (.cons (K _ _ rfl) (.cons (K _ _ rfl) (.cons (K _ _ rfl) .nil)))))), M.less (.refl _), (by rw [List.take_zero]; exact .none), (Nat.zero_le _)⟩
 obtain ⟨c, kr, A, rfl, K, M, hA, hc⟩ := hI
 refine w_seq <| w_region <| o1 K (os_lss rfl rfl) rfl fun _ K => wr_nil ?_
 show W _ _ _ _ _ _ _
 refine w_seq ?_
 refine w_cond (K.opd rfl) (fun h15 => ?_) (fun h15 => ?_)
 ·have hb15 := h15
  replace h15 := of_decide_eq_true h15
  refine w_skip ?_
  show W _ _ _ _ _ _ _
  refine w_seq <| w_block <| w_seq <| w_region <| o1 K (os_move rfl) rfl fun _ K => o1 K (os_assign rfl) rfl fun _ K => wr_nil ?_
  show W _ _ _ _ _ _ _
  refine w_region <| o1 K (os_move rfl) rfl fun _ K => o1 K (os_move rfl) rfl fun _ K => o1 K (os_move rfl) rfl fun _ K => o1 K (os_move rfl) rfl fun _ K => ?_
  obtain ⟨v21, st21, ev21, rfl, q21⟩ := bAt_ev (c := c) M.fresh (hS.q M.qt) h6 wf hi (by omega)
  refine o1 K (os_call rfl ev21) rfl fun _ K => ?_
  replace M := M.quiet q21
  refine wr_bs K M sl_S_int ze_int rfl rfl rfl rfl rfl fun c22 _ _ K M => ?_
  refine wr_acc1 (k2 := 0) (L := [(c22, 0, [.int .i64 ((evS S i c))])]) (A := A) (B := []) K M hA sl_S_int rfl rfl rfl rfl (by rw [zC_len, List.length_take, rowB_len]; have := Nat.min_le_right c (2 ^ Tn); omega) rfl fun ks23 A23 _ _ K hA23 M => ?_
  refine o1 K (os_assign rfl) rfl fun _ K => wr_nil ?_
  show W _ _ _ _ _ _ _
  refine w_region <| o1 K (os_add rfl rfl (by omega) (by omega)) rfl fun _ K => o1 K (os_move rfl) rfl fun _ K => wr_nil ?_
  exact ⟨_, (by omega), c + 1, ks23, A23, rfl, (.cons (K _ _ rfl) (.cons (K _ _ rfl) (.cons (K _ _ rfl) (.cons (K _ _ rfl) (.cons (K _ _ rfl) (.cons (K _ _ rfl) .nil)))))), M.less (.cons _ (.refl _)), (by rw [rowB_take S i (by omega), zC_app]; exact hA23), (by omega)⟩
 have hb15 := h15
 replace h15 := of_decide_eq_false h15
 refine w_exit ?_
 show W _ _ _ _ _ _ _
 refine w_seq <| w_region <| o1 K (os_move rfl) rfl fun _ K => o1 K (os_assign rfl) rfl fun _ K => wr_nil ?_
 show W _ _ _ _ _ _ _
 refine w_ret ?_
 refine ⟨.inr rfl, _, (res_one (rs_tmp K rfl)), ?_⟩
 refine ⟨_, rfl, ?_, M.qt⟩
 rw [List.take_of_length_le (by rw [rowB_len]; omega)] at hA
 have h := Mem.newR (L := []) (A := A) (B := []) M hA
 simpa using h

theorem isValue_ev {st : St} (hf : Fresh st) {x : Int} (h1 : 0 ≤ x) (h2 : x ≤ 1099511627776) : ∃ v st', Ev Tryz.prog envP 95 [.int .i64 x] st v st' ∧ v = .bool true ∧ Qt st st' := by
 refine ev_fn rfl Tryz.func95 rfl Tryz.ntmps95 rfl (by decide) (by simp) fun T hT => ?_
 have K : KnT [(0, _)] T := (.cons (hT 0) .nil)
 have M := Mem.start hf
 refine w_seq <| w_region <| o1 K (os_assign rfl) rfl fun _ K => wr_nil ?_
 show W _ _ _ _ _ _ _
 refine w_seq <| w_region <| o1 K (os_move rfl) rfl fun _ K => o1 K (os_geq rfl rfl) rfl fun _ K => ?_
 refine oB K (os_move rfl) rfl fun b5 _ e5 K => ?_
 cases b5
 ·replace e5 := of_decide_eq_false e5
  exfalso; omega
 replace e5 := of_decide_eq_true e5
 refine og K rfl rfl (os_move rfl) rfl fun _ K => og K rfl rfl (os_leq rfl rfl) rfl fun _ K => o1 K (os_pick rfl rfl rfl) rfl fun _ K => o1 K (os_assign rfl) rfl fun _ K => wr_nil ?_
 show W _ _ _ _ _ _ _
 refine w_ret ?_
 refine ⟨.inr rfl, _, (res_one (rs_tmp K rfl)), ?_⟩
 exact ⟨congrArg AV.bool (decide_eq_true h2), M.qt⟩

theorem bNew_ev {st : St} (hf : Fresh st) {Tn : Nat} (h6 : Tn ≤ 6) : ∃ v st', Ev Tryz.prog envP 70 [.int .i64 (((Tn : Nat) : Int))] st v st' ∧ ∃ sp F, v = .ptr sp 0 0 ∧ StoI st' F sp Tn [] ∧ NewF st st' F ∧ Qt st st' := by
 have B := MemO.start hf
 refine ev_fn rfl Tryz.func70 rfl Tryz.ntmps70 rfl (by decide) (by simp) fun T hT => ?_
 have K : KnT [(0, _)] T := (.cons (hT 0) .nil)
 have M := B.mem
 refine w_seq <| w_region <| o1 K (os_assign rfl) rfl fun _ K => wr_nil ?_
 show W _ _ _ _ _ _ _
 refine w_seq <| w_seq <| w_region <| o1 K (os_move rfl) rfl fun _ K => o1 K (os_lss rfl rfl) rfl fun _ K => ?_
 refine oB K (os_move rfl) rfl fun b5 _ e5 K => ?_
 cases b5
 ·replace e5 := of_decide_eq_false e5
  refine og K rfl rfl (os_move rfl) rfl fun _ K => og K rfl rfl (os_gtr rfl rfl) rfl fun _ K => o1 K (os_pick rfl rfl rfl) rfl fun _ K => wr_nil ?_
  show W _ _ _ _ _ _ _
  refine w_cond (K.opd rfl) (fun h8 => ?_) (fun h8 => ?_)
  ·have hb8 := h8
   replace h8 := of_decide_eq_true h8
   exfalso; omega
  have hb8 := h8
  replace h8 := of_decide_eq_false h8
  refine w_skip ?_
  show W _ _ _ _ _ _ _
  refine w_seq <| w_region <| o1 K (os_move rfl) rfl fun _ K => ?_
  replace B := B.step M
  refine wr_makeK bnV K B rfl fun c10 _ _ K B => ?_
  have M := B.mem
  refine o1 K (os_build st_bdd_Store rfl rfl) rfl fun _ K => ?_
  refine wr_box K M rfl rfl (by decide) fun c12 _ _ K M => ?_
  refine o1 K (os_assign rfl) rfl fun _ K => wr_nil ?_
  show W _ _ _ _ _ _ _
  refine w_ret ?_
  refine ⟨.inr rfl, _, (res_one (rs_tmp K rfl)), ?_⟩
  obtain ⟨F, B'⟩ := MemO.closeS (M := []) (Os := []) (A := []) (S := []) (B.step M) .none
  exact ⟨_, F, rfl, B'.sto (k := 0) rfl, B'.lo0 (k := 0) rfl, B'.qt⟩
 replace e5 := of_decide_eq_true e5
 exfalso; omega

theorem bId_ev {st : St} (hf : Fresh st) {F : Fp} {sp Tn : Nat} {S : Sto} (hS : StoI st F sp Tn S) (hl : S.length < 1000000000) (nd : Bn) : ∃ v st', Ev Tryz.prog envP 150 [.ptr sp 0 0, (bnV nd)] st v st' ∧ ∃ i S', v = .int .i64 ((i : Nat) : Int) ∧ PutB S nd i S' ∧ StoOut st st' F sp Tn S' := by
 have B0 := MemO.startO (o := stoO F sp Tn S) hf hS.at_ hS.hi
 obtain ⟨ks, cm, A, B, hA⟩ := B0.openS
 have hbl : slLen ks = some S.length := hA.len.trans (congrArg some (List.length_map ..))
 refine ev_fn rfl Tryz.func150 rfl Tryz.ntmps150 rfl (by decide) (by simp) fun T hT => ?_
 have K : KnT [(0, _), (1, _)] T := (.cons (hT 0) (.cons (hT 1) .nil))
 have M := B.mem
 replace M := Mem.cast (M' := ((sp, 0, [.int .i64 ((Tn : Nat) : Int), ks, .mp cm]) :: (A ++ []))) M (by simp)
 replace B := B.cast (show _ = ((sp, 0, [.int .i64 ((Tn : Nat) : Int), ks, .mp cm]) :: (A ++ [])) by simp)
 replace M := B.mem
 refine w_seq <| w_region <| o1 K (os_assign rfl) rfl fun _ K => wr_nil ?_
 show W _ _ _ _ _ _ _
 refine w_seq <| w_region <| o1 K (os_move rfl) rfl fun _ K => o1 K (os_nil rfl rfl) rfl fun _ K => o1 K (os_fieldAddr fo_bdd_Store_2 rfl) rfl fun _ K => o1 K (os_load rfl (M.load (k := 0) rfl (part_one tk_M_bdd_node_int rfl))) rfl fun _ K => o1 K (os_move rfl) rfl fun _ K => o1 K (os_lookK key_bn ((B.step M).at_ (k := 0) rfl) rfl rfl) rfl fun _ K => o1 K (os_move rfl) rfl fun _ K => ?_
 refine o1 K (os_extract rfl rfl) rfl fun _ K => o1 K (os_extract rfl rfl) rfl fun _ K => o1 K (os_assign rfl) rfl fun _ K => o1 K (os_assign rfl) rfl fun _ K => wr_nil ?_
 show W _ _ _ _ _ _ _
 refine w_seq <| w_seq <| w_region <| o1 K (os_move rfl) rfl fun _ K => o1 K (os_not rfl) rfl fun _ K => wr_nil ?_
 show W _ _ _ _ _ _ _
 refine w_cond (K.opd rfl) (fun h17 => ?_) (fun h17 => ?_)
 ·have hb17 := h17
  replace h17 : ((lkK (entL 0 S) nd).isSome) = false := by first | simpa using h17 | (revert h17; cases ((lkK (entL 0 S) nd).isSome) <;> simp)
  refine w_seq ?_
  have hnone : lkK (entL 0 S) nd = none := by cases hq : lkK (entL 0 S) nd with | none => rfl | some x => rw [hq] at h17; cases h17
  refine w_region <| o1 K (os_move rfl) rfl fun _ K => o1 K (os_nil rfl rfl) rfl fun _ K => o1 K (os_fieldAddr fo_bdd_Store_1 rfl) rfl fun _ K => o1 K (os_load rfl (M.load (k := 0) rfl (part_one tk_S_bdd_node rfl))) rfl fun _ K => o1 K (os_lenL un_S_bdd_node rfl rfl hbl) rfl fun _ K => o1 K (os_assign rfl) rfl fun _ K => wr_nil ?_
  show W _ _ _ _ _ _ _
  refine w_seq <| w_region <| o1 K (os_move rfl) rfl fun _ K => o1 K (os_move rfl) rfl fun _ K => o1 K (os_nil rfl rfl) rfl fun _ K => o1 K (os_fieldAddr fo_bdd_Store_1 rfl) rfl fun _ K => o1 K (os_load rfl (M.load (k := 0) rfl (part_one tk_S_bdd_node rfl))) rfl fun _ K => o1 K (os_move rfl) rfl fun _ K => ?_
  refine wr_bs K M sl_S_bdd_node ze_bdd_node rfl ((fillA_one rfl (bnV_cell nd) rfl).trans rfl) (cl_cons (bnV_cell nd) cl_nil) rfl rfl fun c29 _ _ K M => ?_
  refine wr_accX (k2 := 0) (L := [(c29, 0, [(bnV nd)]), (sp, 0, [.int .i64 (((Tn : Nat) : Int)), ks, .mp cm])]) (A := A) (B := []) K M hA sl_S_bdd_node rfl rfl rfl (by rw [List.length_map]; omega) rfl fun ks30 A30 _ _ K hA30 hN30 M => ?_
  replace M := Mem.cast (M' := ((c29, 0, [(bnV nd)]) :: (sp, 0, [.int .i64 (((Tn : Nat) : Int)), ks, .mp cm]) :: (A30 ++ []))) M (by first | (simp only [List.append_assoc, List.cons_append, List.nil_append, List.append_nil, List.set_cons_zero, List.set_cons_succ]; done) | (simp only [List.append_assoc, List.cons_append, List.nil_append, List.append_nil, List.set_cons_zero, List.set_cons_succ]; rfl))
  refine o1 K (os_nil rfl rfl) rfl fun _ K => o1 K (os_fieldAddr fo_bdd_Store_1 rfl) rfl fun _ K => ?_
  refine wr_store1 (k := 1) K M rfl rfl rfl sz_S_bdd_node (hA30.cell) rfl fun _ M => ?_
  refine wr_nil ?_
  show W _ _ _ _ _ _ _
  refine w_region <| o1 K (os_move rfl) rfl fun _ K => o1 K (os_nil rfl rfl) rfl fun _ K => o1 K (os_fieldAddr fo_bdd_Store_2 rfl) rfl fun _ K => o1 K (os_load rfl (M.load (k := 1) rfl (part_one tk_M_bdd_node_int rfl))) rfl fun _ K => o1 K (os_move rfl) rfl fun _ K => o1 K (os_move rfl) rfl fun _ K => ?_
  replace B := B.step M
  refine wr_mapK (j := 0) (a := nd) K B rfl key_bn rfl rfl rfl rfl hnone fun _ B => ?_
  have M := B.mem
  refine wr_nil ?_
  show W _ _ _ _ _ _ _
  refine w_seq <| w_region <| o1 K (os_move rfl) rfl fun _ K => o1 K (os_assign rfl) rfl fun _ K => wr_nil ?_
  show W _ _ _ _ _ _ _
  refine w_ret ?_
  refine ⟨.inr rfl, _, (res_one (rs_tmp K rfl)), ?_⟩
  refine ⟨S.length, S ++ [nd], rfl, .app (lk_none hnone), ?_⟩
  have hA' := hA30
  rw [map_bnV_snoc] at hA'
  have e : entL 0 S ++ [(nd, AV.int .i64 ((S.length : Nat) : Int))] = entL 0 (S ++ [nd]) := by rw [entL_snoc, Nat.zero_add]
  obtain ⟨F', B'⟩ := MemO.closeS (M := []) (Os := []) (A := A30) (S := S ++ [nd]) (by rw [← e]; exact (B.step M).less (.cons _ (.refl _))) hA'
  exact B'.outS
 have hb17 := h17
 replace h17 : ((lkK (entL 0 S) nd).isSome) = true := by first | simpa using h17 | (revert h17; cases ((lkK (entL 0 S) nd).isSome) <;> simp)
 refine w_skip ?_
 show W _ _ _ _ _ _ _
 refine w_seq <| w_region <| o1 K (os_move rfl) rfl fun _ K => o1 K (os_assign rfl) rfl fun _ K => wr_nil ?_
 show W _ _ _ _ _ _ _
 refine w_ret ?_
 refine ⟨.inr rfl, _, (res_one (rs_tmp K rfl)), ?_⟩
 obtain ⟨v0, hv0⟩ : ∃ x, lkK (entL 0 S) nd = some x := by cases hq : lkK (entL 0 S) nd with | none => rw [hq] at h17; cases h17 | some x => exact ⟨x, rfl⟩
 obtain ⟨i, hi, rfl⟩ := lk_some hv0
 refine ⟨i, S, by rw [hv0]; rfl, .inl ⟨hi, rfl⟩, ?_⟩
 obtain ⟨F', B'⟩ := MemO.closeS (M := []) (Os := []) (A := A) (S := S) (by simpa using B.step M) hA
 exact B'.outS

theorem bLeaf_ev {st : St} (hf : Fresh st) {F : Fp} {sp Tn : Nat} {S : Sto} (hS : StoI st F sp Tn S) (wf : WFS Tn S) (hl : S.length < 1000000000) {x : Int} (h1 : 0 ≤ x) (h2 : x ≤ 1099511627776) : ∃ v st', Ev Tryz.prog envP 125 [.ptr sp 0 0, .int .i64 x] st v st' ∧ ∃ i S', v = .int .i64 ((i : Nat) : Int) ∧ StoOut st st' F sp Tn S' ∧ MadeB Tn S 1 S' i ∧ lvl Tn S' i = Tn ∧ ∀ c, evS S' i c = x := by
 have B := MemO.startO (o := stoO F sp Tn S) hf hS.at_ hS.hi
 refine ev_fn rfl Tryz.func125 rfl Tryz.ntmps125 rfl (by decide) (by simp) fun T hT => ?_
 have K : KnT [(0, _), (1, _)] T := (.cons (hT 0) (.cons (hT 1) .nil))
 have M := B.mem
 refine w_seq <| w_region <| o1 K (os_assign rfl) rfl fun _ K => wr_nil ?_
 show W _ _ _ _ _ _ _
 refine w_seq <| w_seq <| w_region <| o1 K (os_move rfl) rfl fun _ K => o1 K (os_eqPN un_P_bdd_Store rfl rfl) rfl fun _ K => o1 K (os_move rfl) rfl fun _ K => og K rfl rfl (os_move rfl) rfl fun _ K => ?_
 obtain ⟨v9, st9, ev9, rfl, q9⟩ := isValue_ev M.fresh h1 h2
 refine og K rfl rfl (os_call rfl ev9) rfl fun _ K => ?_
 replace M := M.quiet q9
 refine og K rfl rfl (os_not rfl) rfl fun _ K => o1 K (os_pick rfl rfl rfl) rfl fun _ K => wr_nil ?_
 show W _ _ _ _ _ _ _
 refine w_cond (t := false) (K.opd rfl) (fun h => by cases h) (fun _ => ?_)
 refine w_skip ?_
 show W _ _ _ _ _ _ _
 refine w_seq <| w_region <| o1 K (os_move rfl) rfl fun _ K => o1 K (os_move rfl) rfl fun _ K => o1 K (os_build st_bdd_leaf rfl rfl) rfl fun _ K => o1 K (os_mkIfc rfl (mkI_bdd_leaf _)) rfl fun _ K => ?_
 replace B := B.step M
 obtain ⟨v16, st16, ev16, i16, S16, rfl, hput, hout⟩ := bId_ev M.fresh (B.sto (k := 0) rfl) (by omega) (.leaf x)
 refine o1 K (os_call rfl ev16) rfl fun _ K => ?_
 obtain ⟨F', B⟩ := B.callS hout
 have M := B.mem
 refine o1 K (os_assign rfl) rfl fun _ K => wr_nil ?_
 show W _ _ _ _ _ _ _
 refine w_ret ?_
 refine ⟨.inr rfl, _, (res_one (rs_tmp K rfl)), ?_⟩
 obtain ⟨h3, h4, h5⟩ := leaf_ok hput wf ⟨h1, h2⟩
 exact ⟨_, _, rfl, (B.step M).outS, h3, h4, h5⟩

theorem bMk_ev {st : St} (hf : Fresh st) {F : Fp} {sp Tn : Nat} {S : Sto} (hS : StoI st F sp Tn S) (wf : WFS Tn S) (hlen : S.length < 1000000000) {t l h : Nat} (ht : t < Tn) (hl : l < S.length) (hh : h < S.length) (h1 : t < lvl Tn S l) (h2 : t < lvl Tn S h) : ∃ v st', Ev Tryz.prog envP 126 [.ptr sp 0 0, .int .i64 (((t : Nat) : Int)), .int .i64 (((l : Nat) : Int)), .int .i64 (((h : Nat) : Int))] st v st' ∧ ∃ i S', v = .int .i64 ((i : Nat) : Int) ∧ StoOut st st' F sp Tn S' ∧ MadeB Tn S 1 S' i ∧ t ≤ lvl Tn S' i ∧ ∀ c, evS S' i c = if c.testBit t then evS S h c else evS S l c := by
 have B := MemO.startO (o := stoO F sp Tn S) hf hS.at_ hS.hi
 refine ev_fn rfl Tryz.func126 rfl Tryz.ntmps126 rfl (by decide) (by simp) fun T hT => ?_
 have K : KnT [(0, _), (1, _), (2, _), (3, _)] T := (.cons (hT 0) (.cons (hT 1) (.cons (hT 2) (.cons (hT 3) .nil))))
 have M := B.mem
 refine w_seq <| w_region <| o1 K (os_assign rfl) rfl fun _ K => wr_nil ?_
 show W _ _ _ _ _ _ _
 refine w_seq <| w_block <| w_seq <| w_region <| o1 K (os_move rfl) rfl fun _ K => o1 K (os_lss rfl rfl) rfl fun _ K => ?_
 refine oB K (os_move rfl) rfl fun b12 _ e12 K => ?_
 cases b12
 ·replace e12 := of_decide_eq_false e12
  refine og K rfl rfl (os_move rfl) rfl fun _ K => og K rfl rfl (os_move rfl) rfl fun _ K => ?_
  replace B := B.step M
  obtain ⟨v15, st15, ev15, rfl, q15⟩ := bTracks_ev M.fresh (B.sto (k := 0) rfl)
  refine og K rfl rfl (os_call rfl ev15) rfl fun _ K => ?_
  replace B := B.quiet q15
  have M := B.mem
  refine og K rfl rfl (os_geq rfl rfl) rfl fun _ K => o1 K (os_pick rfl rfl rfl) rfl fun _ K => ?_
  refine oB K (os_move rfl) rfl fun b18 _ e18 K => ?_
  cases b18
  ·replace e18 := of_decide_eq_false e18
   refine og K rfl rfl (os_move rfl) rfl fun _ K => og K rfl rfl (os_move rfl) rfl fun _ K => og K rfl rfl (os_move rfl) rfl fun _ K => ?_
   replace B := B.step M
   obtain ⟨v22, st22, ev22, rfl, q22⟩ := bBelow_ev M.fresh (B.sto (k := 0) rfl) hl t ht
   refine og K rfl rfl (os_call rfl ev22) rfl fun _ K => ?_
   replace B := B.quiet q22
   have M := B.mem
   refine og K rfl rfl (os_not rfl) rfl fun _ K => o1 K (os_pick rfl rfl rfl) rfl fun _ K => ?_
   refine oB K (os_move rfl) rfl fun b25 _ e25 K => ?_
   cases b25
   ·replace e25 : (t < lvl Tn S l) := by simpa using e25
    refine og K rfl rfl (os_move rfl) rfl fun _ K => og K rfl rfl (os_move rfl) rfl fun _ K => og K rfl rfl (os_move rfl) rfl fun _ K => ?_
    replace B := B.step M
    obtain ⟨v29, st29, ev29, rfl, q29⟩ := bBelow_ev M.fresh (B.sto (k := 0) rfl) hh t ht
    refine og K rfl rfl (os_call rfl ev29) rfl fun _ K => ?_
    replace B := B.quiet q29
    have M := B.mem
    refine og K rfl rfl (os_not rfl) rfl fun _ K => o1 K (os_pick rfl rfl rfl) rfl fun _ K => o1 K (os_assign rfl) rfl fun _ K => wr_nil ?_
    show W _ _ _ _ _ _ _
    refine w_cond (K.opd rfl) (fun h9 => ?_) (fun h9 => ?_)
    ·have hb9 := h9
     replace h9 : ¬ (t < lvl Tn S h) := by simpa using h9
     exfalso; omega
    have hb9 := h9
    replace h9 : (t < lvl Tn S h) := by simpa using h9
    refine w_seq <| w_region <| o1 K (os_move rfl) rfl fun _ K => o1 K (os_move rfl) rfl fun _ K => o1 K (os_eqI rfl rfl) rfl fun _ K => o1 K (os_assign rfl) rfl fun _ K => wr_nil ?_
    show W _ _ _ _ _ _ _
    refine w_cond (K.opd rfl) (fun h32 => ?_) (fun h32 => ?_)
    ·have hb32 := h32
     replace h32 := of_decide_eq_true h32
     refine w_seq <| w_region <| o1 K (os_move rfl) rfl fun _ K => o1 K (os_assign rfl) rfl fun _ K => wr_nil ?_
     show W _ _ _ _ _ _ _
     refine w_ret ?_
     refine ⟨.inr rfl, _, (res_one (rs_tmp K rfl)), ?_⟩
     obtain ⟨h3, h4, h5⟩ := mk_ok (.inl ⟨by omega, rfl, rfl⟩) wf ht hl hh h1 h2
     exact ⟨_, _, rfl, (B.step M).outS, h3, h4, h5⟩
    have hb32 := h32
    replace h32 := of_decide_eq_false h32
    refine w_skip ?_
    show W _ _ _ _ _ _ _
    refine w_seq <| w_region <| o1 K (os_move rfl) rfl fun _ K => o1 K (os_move rfl) rfl fun _ K => o1 K (os_move rfl) rfl fun _ K => o1 K (os_move rfl) rfl fun _ K => o1 K (os_build st_bdd_fork rfl rfl) rfl fun _ K => o1 K (os_mkIfc rfl (mkI_bdd_fork _)) rfl fun _ K => ?_
    replace B := B.step M
    obtain ⟨v43, st43, ev43, i43, S43, rfl, hput, hout⟩ := bId_ev M.fresh (B.sto (k := 0) rfl) (by omega) (.fork t l h)
    refine o1 K (os_call rfl ev43) rfl fun _ K => ?_
    obtain ⟨F', B⟩ := B.callS hout
    have M := B.mem
    refine o1 K (os_assign rfl) rfl fun _ K => wr_nil ?_
    show W _ _ _ _ _ _ _
    refine w_ret ?_
    refine ⟨.inr rfl, _, (res_one (rs_tmp K rfl)), ?_⟩
    obtain ⟨h3, h4, h5⟩ := mk_ok (.inr ⟨by omega, hput⟩) wf ht hl hh h1 h2
    exact ⟨_, _, rfl, (B.step M).outS, h3, h4, h5⟩
   replace e25 : ¬ (t < lvl Tn S l) := by simpa using e25
   exfalso; omega
  replace e18 := of_decide_eq_true e18
  exfalso; omega
 replace e12 := of_decide_eq_true e12
 exfalso; omega

theorem indexZ_ev {st : St} (hf : Fresh st) {l : List Int} {kl : AV} (hl : RdR st.h.get [] 1 (zC l) kl) (hb : (l.length : Int) ≤ 9223372036854775807) {fo : FuncId} {fa fc : List AV} {p : Int → Bool} (hC : ∀ (x : Int), x ∈ l → ∀ (st1 : St), Qt st st1 → ∃ v st', Ev Tryz.prog envP fo (fa ++ ([.int .i64 x] ++ fc)) st1 v st' ∧ v = .bool (p x) ∧ Qt st1 st') : ∃ v st', Ev Tryz.prog envP 68 [kl, (AV.fn fo fa fc)] st v st' ∧ v = .int .i64 (idxP p l 0) ∧ Qt st st' := by
 refine ev_fn rfl Tryz.func68 rfl Tryz.ntmps68 rfl (by decide) (by simp) fun T hT => ?_
 have K : KnT [(0, _), (1, _)] T := (.cons (hT 0) (.cons (hT 1) .nil))
 have M := Mem.start hf
 refine w_seq <| w_region <| o1 K (os_assign rfl) rfl fun _ K => wr_nil ?_
 show W _ _ _ _ _ _ _
 refine w_seq <| w_seq <| w_region <| o1 K (os_move rfl) rfl fun _ K => o1 K (os_lenL un_S_int rfl rfl (hl.len.trans (congrArg some (zC_len _)))) rfl fun _ K => o1 K (os_move rfl) rfl fun _ K => wr_nil ?_
 show W _ _ _ _ _ _ _
 refine w_block ?_
 refine w_loop (fun mm1 T st9 => ∃ (i : Nat), mm1 = l.length - i ∧ KnT [(0, kl), (1, (AV.fn fo fa fc)), (7, .int .i64 (((l.length : Nat) : Int))), (8, .int .i64 (((i : Nat) : Int)))] T ∧ Mem st.h.get st.n [] st9 [] ∧ i ≤ l.length ∧ idxP p l 0 = idxP p (l.drop i) i) (fun mm1 T st9 hI => ?_) _ _ _ ⟨0, rfl, (.cons (K _ _ rfl) (.cons (K _ _ rfl) (.cons (K _ _ rfl) (.cons (K _ _ rfl) .nil)))), M.less (.refl _), (Nat.zero_le _), rfl⟩
 obtain ⟨i, rfl, K, M, hi, hx⟩ := hI
 refine w_seq <| w_region <| o1 K (os_lss rfl rfl) rfl fun _ K => wr_nil ?_
 show W _ _ _ _ _ _ _
 refine w_seq ?_
 refine w_cond (K.opd rfl) (fun h9 => ?_) (fun h9 => ?_)
 ·have hb9 := h9
  replace h9 := of_decide_eq_true h9
  refine w_skip ?_
  show W _ _ _ _ _ _ _
  refine w_seq <| w_block <| w_seq <| w_region <| o1 K (os_move rfl) rfl fun _ K => o1 K (os_assign rfl) rfl fun _ K => wr_nil ?_
  show W _ _ _ _ _ _ _
  refine w_seq <| w_region <| o1 K (os_move rfl) rfl fun _ K => o1 K (os_move rfl) rfl fun _ K => o1 K (os_move rfl) rfl fun _ K => ?_
  obtain ⟨y14, hi14⟩ : ∃ x, l[i]? = some x := ⟨_, List.getElem?_eq_getElem (by omega)⟩
  obtain ⟨x14, m14, f14, q14, _, la14, lo14, lp14⟩ := (RdR.mem M hl (by simp)).load (i := i) (cs := _) (zC_get hi14)
  refine o1 K (os_indexAddr (j := i) el_S_int (congrArg some q14) rfl (by rw [zC_len]; omega)) rfl fun _ K => o1 K (os_load rfl (lo14 _ 0 _ tk_int rfl)) rfl fun _ K => ?_
  obtain ⟨v16, st16, ev16, rfl, q16⟩ := hC y14 (List.mem_of_getElem? hi14) _ M.qt
  refine o1 K (os_callv rfl rfl ev16) rfl fun _ K => ?_
  replace M := M.quiet q16
  refine wr_nil ?_
  show W _ _ _ _ _ _ _
  refine w_cond (K.opd rfl) (fun h16 => ?_) (fun h16 => ?_)
  ·have hb16 := h16
   refine w_seq <| w_region <| o1 K (os_move rfl) rfl fun _ K => o1 K (os_assign rfl) rfl fun _ K => wr_nil ?_
   show W _ _ _ _ _ _ _
   refine w_ret ?_
   refine ⟨.inr rfl, _, (res_one (rs_tmp K rfl)), ?_⟩
   exact ⟨by rw [hx, idxP_step hi14, if_pos h16], M.qt⟩
  have hb16 := h16
  refine w_skip ?_
  show W _ _ _ _ _ _ _
  refine w_region <| o1 K (os_add rfl rfl (by omega) (by omega)) rfl fun _ K => o1 K (os_move rfl) rfl fun _ K => wr_nil ?_
  exact ⟨_, (by omega), i + 1, rfl, (.cons (K _ _ rfl) (.cons (K _ _ rfl) (.cons (K _ _ rfl) (.cons (K _ _ rfl) .nil)))), M.less (.refl _), (by omega), (by rw [hx, idxP_step hi14, if_neg (by rw [h16]; decide)])⟩
 have hb9 := h9
 replace h9 := of_decide_eq_false h9
 refine w_exit ?_
 show W _ _ _ _ _ _ _
 refine w_seq <| w_region <| o1 K (os_assign rfl) rfl fun _ K => wr_nil ?_
 show W _ _ _ _ _ _ _
 refine w_ret ?_
 refine ⟨.inr rfl, _, (res_one (rs_tmp K rfl)), ?_⟩
 exact ⟨by rw [hx, idxP_end (by omega)], M.qt⟩

theorem containsZ_ev {st : St} (hf : Fresh st) {l : List Int} {kl : AV} (hl : RdR st.h.get [] 1 (zC l) kl) (hb : (l.length : Int) ≤ 9223372036854775807) {fo : FuncId} {fa fc : List AV} {p : Int → Bool} (hC : ∀ (x : Int), x ∈ l → ∀ (st1 : St), Qt st st1 → ∃ v st', Ev Tryz.prog envP fo (fa ++ ([.int .i64 x] ++ fc)) st1 v st' ∧ v = .bool (p x) ∧ Qt st1 st') : ∃ v st', Ev Tryz.prog envP 42 [kl, (AV.fn fo fa fc)] st v st' ∧ v = .bool (l.any p) ∧ Qt st st' := by
 refine ev_fn rfl Tryz.func42 rfl Tryz.ntmps42 rfl (by decide) (by simp) fun T hT => ?_
 have K : KnT [(0, _), (1, _)] T := (.cons (hT 0) (.cons (hT 1) .nil))
 have M := Mem.start hf
 refine w_seq <| w_region <| o1 K (os_assign rfl) rfl fun _ K => wr_nil ?_
 show W _ _ _ _ _ _ _
 refine w_seq <| w_region <| o1 K (os_move rfl) rfl fun _ K => o1 K (os_move rfl) rfl fun _ K => ?_
 obtain ⟨v7, st7, ev7, rfl, q7⟩ := indexZ_ev M.fresh (RdR.mem M hl (by simp)) hb (fun x hx st1 q => hC x hx st1 (M.qt.trans q))
 refine o1 K (os_call rfl ev7) rfl fun _ K => ?_
 replace M := M.quiet q7
 refine o1 K (os_geq rfl rfl) rfl fun _ K => o1 K (os_assign rfl) rfl fun _ K => wr_nil ?_
 show W _ _ _ _ _ _ _
 refine w_ret ?_
 refine ⟨.inr rfl, _, (res_one (rs_tmp K rfl)), ?_⟩
 exact ⟨by rw [← idxP_any p l 0], M.qt⟩

theorem containsZ_no {st : St} (hf : Fresh st) {l : List Int} {kl : AV} (hl : RdR st.h.get [] 1 (zC l) kl) (hb : (l.length : Int) ≤ 9223372036854775807) {fo : FuncId} {fa fc : List AV} (hC : ∀ (x : Int), x ∈ l → ∀ (st1 : St), Qt st st1 → ∃ v st', Ev Tryz.prog envP fo (fa ++ ([.int .i64 x] ++ fc)) st1 v st' ∧ v = .bool false ∧ Qt st1 st') : ∃ v st', Ev Tryz.prog envP 42 [kl, .fn fo fa fc] st v st' ∧ v = .bool false ∧ Qt st st' := by
 obtain ⟨v, st', h1, h2, h3⟩ := containsZ_ev (p := fun _ => false) hf hl hb hC
 exact ⟨v, st', h1, by rw [h2]; simp, h3⟩

theorem Of1_ev {st : St} (hf : Fresh st) {x : Int} (h1 : 0 ≤ x) (h2 : x ≤ 1099511627776) : ∃ v st', Ev Tryz.prog envP 94 [.int .i64 x] st v st' ∧ v = .bool false ∧ Qt st st' := by
 refine ev_fn rfl Tryz.func94 rfl Tryz.ntmps94 rfl (by decide) (by simp) fun T hT => ?_
 have K : KnT [(0, _)] T := (.cons (hT 0) .nil)
 have M := Mem.start hf
 refine w_seq <| w_region <| o1 K (os_assign rfl) rfl fun _ K => wr_nil ?_
 show W _ _ _ _ _ _ _
 refine w_seq <| w_region <| o1 K (os_move rfl) rfl fun _ K => ?_
 obtain ⟨v4, st4, ev4, rfl, q4⟩ := isValue_ev M.fresh h1 h2
 refine o1 K (os_call rfl ev4) rfl fun _ K => ?_
 replace M := M.quiet q4
 refine o1 K (os_not rfl) rfl fun _ K => o1 K (os_assign rfl) rfl fun _ K => wr_nil ?_
 show W _ _ _ _ _ _ _
 refine w_ret ?_
 refine ⟨.inr rfl, _, (res_one (rs_tmp K rfl)), ?_⟩
 exact ⟨rfl, M.qt⟩

theorem bof_ev {st : St} (hf : Fresh st) {F : Fp} {sp Tn : Nat} {S : Sto} (hS : StoI st F sp Tn S) (h6 : Tn ≤ 6) (wf : WFS Tn S) {t a : Nat} (ht : t ≤ Tn) (ha : a < 2 ^ t) (hlen0 : S.length + (2 ^ (Tn - t + 1) - 1) ≤ 1000000000) {row : List Int} {kr : AV} (hR : RdR st.h.get [] 1 (zC row) kr) (hoff : ∀ c m o n y, kr = .sl c m o n y → ¬ F c) (hrl : row.length = 2 ^ Tn) (hrv : ∀ x ∈ row, 0 ≤ x ∧ x ≤ 1099511627776) (ih : t < Tn → ∀ (st : St) (F : Fp) (S : Sto) (a : Nat), Fresh st → StoI st F sp Tn S → WFS Tn S → S.length + (2 ^ (Tn - (t + 1) + 1) - 1) ≤ 1000000000 → a < 2 ^ (t + 1) → RdR st.h.get [] 1 (zC row) kr → (∀ c m o n y, kr = .sl c m o n y → ¬ F c) → ∃ v st', Ev Tryz.prog envP 96 [.ptr sp 0 0, kr, .int .i64 ((t + 1 : Nat) : Int), .int .i64 ((a : Nat) : Int)] st v st' ∧ ∃ i S', v = .int .i64 ((i : Nat) : Int) ∧ StoOut st st' F sp Tn S' ∧ MadeB Tn S (2 ^ (Tn - (t + 1) + 1) - 1) S' i ∧ t + 1 ≤ lvl Tn S' i ∧ ∀ c, c < 2 ^ Tn → row[ixB (t + 1) a c]? = some (evS S' i c)) : ∃ v st', Ev Tryz.prog envP 96 [.ptr sp 0 0, kr, .int .i64 (((t : Nat) : Int)), .int .i64 (((a : Nat) : Int))] st v st' ∧ ∃ i S', v = .int .i64 ((i : Nat) : Int) ∧ StoOut st st' F sp Tn S' ∧ MadeB Tn S (2 ^ (Tn - t + 1) - 1) S' i ∧ t ≤ lvl Tn S' i ∧ ∀ c, c < 2 ^ Tn → row[ixB t a c]? = some (evS S' i c) := by
 have B := MemO.startO (o := stoO F sp Tn S) hf hS.at_ hS.hi
 obtain ⟨ks, cm, hrow, hrd, hlen, hbn⟩ := hS.at_.rd
 have hpt := pow_le64 (show t ≤ 6 by omega)
 have hp2 : 2 ^ (t + 1) = 2 * 2 ^ t := by rw [Nat.pow_succ, Nat.mul_comm]
 have hq0 : 1 ≤ 2 ^ (Tn - t) := Nat.one_le_two_pow
 have hq1 : 2 ^ (Tn - t + 1) = 2 * 2 ^ (Tn - t) := by rw [Nat.pow_succ, Nat.mul_comm]
 refine ev_fn rfl Tryz.func96 rfl Tryz.ntmps96 rfl (by decide) (by simp) fun T hT => ?_
 have K : KnT [(0, _), (1, _), (2, _), (3, _)] T := (.cons (hT 0) (.cons (hT 1) (.cons (hT 2) (.cons (hT 3) .nil))))
 have M := B.mem
 refine w_seq <| w_region <| o1 K (os_assign rfl) rfl fun _ K => wr_nil ?_
 show W _ _ _ _ _ _ _
 refine w_seq <| w_seq <| w_region <| o1 K (os_move rfl) rfl fun _ K => o1 K (os_move rfl) rfl fun _ K => o1 K (os_nil rfl rfl) rfl fun _ K => o1 K (os_fieldAddr fo_bdd_Store_0 rfl) rfl fun _ K => o1 K (os_load rfl (ld_row (M.rowX (by simp) hrow.rowV) (part_one tk_int rfl))) rfl fun _ K => o1 K (os_eqI rfl rfl) rfl fun _ K => ?_
 refine wr_nil ?_
 show W _ _ _ _ _ _ _
 refine w_cond (K.opd rfl) (fun h15 => ?_) (fun h15 => ?_)
 ·have hb15 := h15
  replace h15 := of_decide_eq_true h15
  refine w_seq ?_
  have htt : t = Tn := by omega
  have harl : a < row.length := by rw [hrl, ← htt]; exact ha
  refine w_region <| o1 K (os_move rfl) rfl fun _ K => o1 K (os_move rfl) rfl fun _ K => o1 K (os_move rfl) rfl fun _ K => ?_
  obtain ⟨y19, hi19⟩ : ∃ x, row[a]? = some x := ⟨_, List.getElem?_eq_getElem (by omega)⟩
  obtain ⟨x19, m19, f19, q19, _, la19, lo19, lp19⟩ := ((B.step M).rd hf hR hoff).load (i := a) (cs := _) (zC_get hi19)
  refine o1 K (os_indexAddr (j := a) el_S_int (congrArg some q19) rfl (by rw [zC_len]; omega)) rfl fun _ K => o1 K (os_load rfl (lo19 _ 0 _ tk_int rfl)) rfl fun _ K => ?_
  replace B := B.step M
  obtain ⟨hv1, hv2⟩ := hrv _ (List.mem_of_getElem? hi19)
  obtain ⟨v21, st21, ev21, i1, S1, rfl, hout1, m1, lv1, hev1⟩ := bLeaf_ev B.fresh (B.sto (k := 0) rfl) wf (by omega) hv1 hv2
  refine o1 K (os_call rfl ev21) rfl fun _ K => ?_
  obtain ⟨F1, B⟩ := B.callS hout1
  have M := B.mem
  refine o1 K (os_assign rfl) rfl fun _ K => wr_nil ?_
  show W _ _ _ _ _ _ _
  refine w_ret ?_
  refine ⟨.inr rfl, _, (res_one (rs_tmp K rfl)), ?_⟩
  have e0 : ∀ c, c < 2 ^ Tn → ixB t a c = a := fun c hc => by
   unfold ixB
   rw [htt, Nat.div_eq_of_lt hc, Nat.zero_mul, Nat.add_zero]
  exact ⟨_, _, rfl, (B.step M).outS, m1.more (by omega), by omega, fun c hc => by rw [e0 c hc, hi19, hev1]⟩
 have hb15 := h15
 replace h15 := of_decide_eq_false h15
 refine w_skip ?_
 show W _ _ _ _ _ _ _
 refine w_seq ?_
 have ht1 : t < Tn := by omega
 have hq2 : Tn - (t + 1) + 1 = Tn - t := by omega
 have hq3 : 2 ^ (Tn - (t + 1) + 1) = 2 ^ (Tn - t) := by rw [hq2]
 refine w_region <| o1 K (os_move rfl) rfl fun _ K => o1 K (os_move rfl) rfl fun _ K => o1 K (os_move rfl) rfl fun _ K => o1 K (os_add rfl rfl (by omega) (by omega)) rfl fun _ K => o1 K (os_move rfl) rfl fun _ K => ?_
 replace B := B.step M
 obtain ⟨v27, st27, ev27, i1, S1, rfl, hout1, m1, lv1, hev1⟩ := ih ht1 _ _ _ a B.fresh (B.sto (k := 0) rfl) wf (by skip; omega) (by omega) (B.rd hf hR hoff) (B.off (k := 0) rfl hf hR hoff)
 refine o1 K (os_call rfl ev27) rfl fun _ K => ?_
 obtain ⟨F1, B⟩ := B.callS hout1
 have M := B.mem
 refine o1 K (os_assign rfl) rfl fun _ K => wr_nil ?_
 show W _ _ _ _ _ _ _
 refine w_seq ?_
 have hor : a ||| 2 ^ t = a + 2 ^ t := or_low ha
 refine w_region <| o1 K (os_move rfl) rfl fun _ K => o1 K (os_move rfl) rfl fun _ K => o1 K (os_move rfl) rfl fun _ K => o1 K (os_move rfl) rfl fun _ K => o1 K (os_move rfl) rfl fun _ K => o1 K (os_move rfl) rfl fun _ K => o1 K (os_add rfl rfl (by omega) (by omega)) rfl fun _ K => o1 K (os_move rfl) rfl fun _ K => ?_
 refine o1 K (os_move rfl) rfl fun _ K => o1 K (os_shl1 (n := t) rfl rfl (by omega)) rfl fun _ K => o1 K (os_orE (a := a) (b := 2 ^ t) hor rfl rfl (by omega) (by omega)) rfl fun _ K => ?_
 replace B := B.step M
 obtain ⟨v39, st39, ev39, i2, S2, rfl, hout2, m2, lv2, hev2⟩ := ih ht1 _ _ _ (a + 2 ^ t) B.fresh (B.sto (k := 0) rfl) m1.wf (by have := m1.len; omega) (by omega) (B.rd hf hR hoff) (B.off (k := 0) rfl hf hR hoff)
 refine o1 K (os_call rfl ev39) rfl fun _ K => ?_
 obtain ⟨F2, B⟩ := B.callS hout2
 have M := B.mem
 replace B := B.step M
 have hl1 := m1.len; have hl2 := m2.len; have hq2 := lvl_pre (T := Tn) m2.pre m1.lt; have hq3 := m2.pre.length_le; have hlt1 := m1.lt
 obtain ⟨v40, st40, ev40, i3, S3, rfl, hout3, m3, lv3, hev3⟩ := bMk_ev B.fresh (B.sto (k := 0) rfl) m2.wf (by omega) ht1 (show i1 < _ by omega) m2.lt (by omega) (by omega)
 refine o1 K (os_call rfl ev40) rfl fun _ K => ?_
 obtain ⟨F3, B⟩ := B.callS hout3
 have M := B.mem
 refine o1 K (os_assign rfl) rfl fun _ K => wr_nil ?_
 show W _ _ _ _ _ _ _
 refine w_ret ?_
 refine ⟨.inr rfl, _, (res_one (rs_tmp K rfl)), ?_⟩
 refine ⟨_, _, rfl, (B.step M).outS, ⟨m3.wf, m1.pre.trans (m2.pre.trans m3.pre), m3.lt, by have := m3.len; omega⟩, lv3, fun c hc => ?_⟩
 rw [hev3]
 cases hb : c.testBit t with
 | true => rw [if_pos rfl, ← ixB_high hb]; exact hev2 c hc
 | false => rw [if_neg (by decide), ev_pre m1.wf m2.pre m1.lt, ← ixB_low hb]; exact hev1 c hc

theorem bof_all {sp Tn : Nat} (h6 : Tn ≤ 6) {row : List Int} {kr : AV} (hrl : row.length = 2 ^ Tn) (hrv : ∀ x ∈ row, 0 ≤ x ∧ x ≤ 1099511627776) : ∀ k t, t + k = Tn → ∀ (st : St) (F : Fp) (S : Sto) (a : Nat), Fresh st → StoI st F sp Tn S → WFS Tn S → S.length + (2 ^ (Tn - t + 1) - 1) ≤ 1000000000 → a < 2 ^ t → RdR st.h.get [] 1 (zC row) kr → (∀ c m o n y, kr = .sl c m o n y → ¬ F c) → ∃ v st', Ev Tryz.prog envP 96 [.ptr sp 0 0, kr, .int .i64 ((t : Nat) : Int), .int .i64 ((a : Nat) : Int)] st v st' ∧ ∃ i S', v = .int .i64 ((i : Nat) : Int) ∧ StoOut st st' F sp Tn S' ∧ MadeB Tn S (2 ^ (Tn - t + 1) - 1) S' i ∧ t ≤ lvl Tn S' i ∧ ∀ c, c < 2 ^ Tn → row[ixB t a c]? = some (evS S' i c) := by
 intro k
 induction k with
 | zero => intro t ht st F S a hf hS wf hl ha hR hoff; exact bof_ev hf hS h6 wf (by omega) ha hl hR hoff hrl hrv fun h => by omega
 | succ k ih => intro t ht st F S a hf hS wf hl ha hR hoff; exact bof_ev hf hS h6 wf (by omega) ha hl hR hoff hrl hrv fun h => ih (t + 1) (by omega)

theorem bOf_ev {st : St} (hf : Fresh st) {F : Fp} {sp Tn : Nat} {S : Sto} (hS : StoI st F sp Tn S) (h6 : Tn ≤ 6) (wf : WFS Tn S) (hlen0 : S.length + (2 ^ (Tn - 0 + 1) - 1) ≤ 1000000000) {row : List Int} {kr : AV} (hR : RdR st.h.get [] 1 (zC row) kr) (hoff : ∀ c m o n y, kr = .sl c m o n y → ¬ F c) (hrl : row.length = 2 ^ Tn) (hrv : ∀ x ∈ row, 0 ≤ x ∧ x ≤ 1099511627776) : ∃ v st', Ev Tryz.prog envP 71 [.ptr sp 0 0, kr] st v st' ∧ ∃ i S', v = .int .i64 ((i : Nat) : Int) ∧ StoOut st st' F sp Tn S' ∧ MadeB Tn S (2 ^ (Tn + 1) - 1) S' i ∧ ∀ c, c < 2 ^ Tn → row[c]? = some (evS S' i c) := by
 have B := MemO.startO (o := stoO F sp Tn S) hf hS.at_ hS.hi
 obtain ⟨ks, cm, hrow, hrd, hlen, hbn⟩ := hS.at_.rd
 have hpt := pow_le64 h6
 have hrb : (row.length : Int) ≤ 9223372036854775807 := by omega
 refine ev_fn rfl Tryz.func71 rfl Tryz.ntmps71 rfl (by decide) (by simp) fun T hT => ?_
 have K : KnT [(0, _), (1, _)] T := (.cons (hT 0) (.cons (hT 1) .nil))
 have M := B.mem
 refine w_seq <| w_region <| o1 K (os_assign rfl) rfl fun _ K => wr_nil ?_
 show W _ _ _ _ _ _ _
 refine w_seq <| w_seq <| w_region <| o1 K (os_move rfl) rfl fun _ K => o1 K (os_eqPN un_P_bdd_Store rfl rfl) rfl fun _ K => o1 K (os_move rfl) rfl fun _ K => og K rfl rfl (os_move rfl) rfl fun _ K => og K rfl rfl (os_lenL un_S_int rfl rfl (hR.len.trans (congrArg some (zC_len _)))) rfl fun _ K => og K rfl rfl (os_move rfl) rfl fun _ K => ?_
 refine og K rfl rfl (os_nil rfl rfl) rfl fun _ K => og K rfl rfl (os_fieldAddr fo_bdd_Store_0 rfl) rfl fun _ K => og K rfl rfl (os_load rfl (ld_row (M.rowX (by simp) hrow.rowV) (part_one tk_int rfl))) rfl fun _ K => og K rfl rfl (os_shl1 (n := Tn) rfl rfl (by omega)) rfl fun _ K => og K rfl rfl (os_neI rfl rfl) rfl fun _ K => o1 K (os_pick rfl rfl rfl) rfl fun _ K => ?_
 refine oB K (os_move rfl) rfl fun b17 _ e17 K => ?_
 cases b17
 ·replace e17 : (((row.length : Nat) : Int) = ((2 ^ Tn : Nat) : Int)) := by simpa using e17
  refine og K rfl rfl (os_move rfl) rfl fun _ K => ?_
  replace B := B.step M
  obtain ⟨v19, st19, ev19, rfl, q19⟩ := containsZ_no (fo := 94) (fa := []) (fc := []) B.fresh (B.rd hf hR hoff) hrb (fun x hx st1 q => Of1_ev q.fresh (hrv x hx).1 (hrv x hx).2)
  refine og K rfl rfl (os_call rfl ev19) rfl fun _ K => ?_
  replace B := B.quiet q19
  have M := B.mem
  refine o1 K (os_pick rfl rfl rfl) rfl fun _ K => wr_nil ?_
  show W _ _ _ _ _ _ _
  refine w_cond (t := false) (K.opd rfl) (fun h => by cases h) (fun _ => ?_)
  refine w_skip ?_
  show W _ _ _ _ _ _ _
  refine w_seq <| w_region <| o1 K (os_move rfl) rfl fun _ K => o1 K (os_move rfl) rfl fun _ K => ?_
  replace B := B.step M
  have hlo := hlen0
  obtain ⟨v23, st23, ev23, i1, S1, rfl, hout1, m1, lv1, hev1⟩ := bof_all h6 hrl hrv Tn 0 (Nat.zero_add _) _ _ _ 0 B.fresh (B.sto (k := 0) rfl) wf hlen0 (by decide) (B.rd hf hR hoff) (B.off (k := 0) rfl hf hR hoff)
  refine o1 K (os_call rfl ev23) rfl fun _ K => ?_
  obtain ⟨F1, B⟩ := B.callS hout1
  have M := B.mem
  refine o1 K (os_assign rfl) rfl fun _ K => wr_nil ?_
  show W _ _ _ _ _ _ _
  refine w_ret ?_
  refine ⟨.inr rfl, _, (res_one (rs_tmp K rfl)), ?_⟩
  refine ⟨_, _, rfl, (B.step M).outS, m1, fun c hc => ?_⟩
  have := hev1 c hc
  rw [show ixB 0 0 c = c by simp [ixB]] at this
  exact this
 replace e17 : ¬ (((row.length : Nat) : Int) = ((2 ^ Tn : Nat) : Int)) := by simpa using e17
 exfalso; omega
end Go.Proofs.YtiknomepbklibaaGreatDoor
