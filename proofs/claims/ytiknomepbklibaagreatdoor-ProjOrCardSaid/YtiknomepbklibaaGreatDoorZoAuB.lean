/-
  Automata: from rows, to rows.
-/
import Derived.Test.YtiknomepbklibaaGreatDoorZoAuA
namespace Go.Proofs.YtiknomepbklibaaGreatDoor
open Go Go.RowKit
set_option linter.unusedVariables false
set_option linter.unusedSimpArgs false
set_option linter.unnecessarySimpa false
set_option maxRecDepth 100000
set_option maxHeartbeats 2000000

abbrev zN (l : List Nat) : List Int := l.map fun r => ((r : Nat) : Int)
theorem zN_snoc (l : List Nat) (r : Nat) : zN (l ++ [r]) = zN l ++ [((r : Nat) : Int)] := by simp
section
variable {st0 st : St} {X0 : Fp} {M A1 A2 : Rows2} {Os : List Ob} {F1 : Fp} {dp sp n0 n1 : Nat} {ka kr : AV} {a : Au} {S : Sto} {roots : List Nat}
theorem MemO.closeD (B : MemO st0 X0 st ((dp, 0, [ka, kr, .ptr sp 0 0]) :: (A1 ++ (A2 ++ M))) (stoO F1 sp a.tr S :: Os)) (hA1 : Acc n0 1 A1 ka (bC a.acc)) (hA2 : Acc n1 1 A2 kr (zC (zN roots))) (wfS : WFS a.tr S) (wf : WFA a) (hl : roots.length = a.n)
  (hr : ∀ (s r : Nat), roots[s]? = some r → r < S.length ∧ a.nx[s]? = some (rowB a.tr S r)) : ∃ F, MemO st0 X0 st M (dfaO F dp a :: Os) := by
 have h1 : RdR st.h.get [] 1 (bC a.acc) ka := Mem.accR (L := [(dp, 0, [ka, kr, .ptr sp 0 0])]) (A := A1) (B := A2 ++ M) B.mem hA1
 have h2 : RdR st.h.get [] 1 (zC (zN roots)) kr := Mem.accR (L := (dp, 0, [ka, kr, .ptr sp 0 0]) :: A1) (A := A2) (B := M) (B.mem.cast (by simp)) hA2
 have h0 := B.row dp 0 _ (List.mem_cons_self ..)
 have B0 : MemO st0 X0 st (((dp, 0, [ka, kr, .ptr sp 0 0]) :: (A1 ++ A2)) ++ M) (stoO F1 sp a.tr S :: Os) := B.cast (by simp)
 have B1 := B0.freeze (o := rowsO ((dp, 0, [ka, kr, .ptr sp 0 0]) :: (A1 ++ A2))) (fun c m l hm => B0.row c m l (List.mem_append_left _ hm)) (fun c hc => hc)
 have f1 : InF (rowsO ((dp, 0, [ka, kr, .ptr sp 0 0]) :: (A1 ++ A2))).F ka := fun c m o n y e => by
  obtain ⟨m, l, h⟩ := hA1.inF c m o n y e
  exact ⟨m, l, by simp [h]⟩
 have f2 : InF (rowsO ((dp, 0, [ka, kr, .ptr sp 0 0]) :: (A1 ++ A2))).F kr := fun c m o n y e => by
  obtain ⟨m, l, h⟩ := hA2.inF c m o n y e
  exact ⟨m, l, by simp [h]⟩
 refine ⟨fun c => (rowsO ((dp, 0, [ka, kr, .ptr sp 0 0]) :: (A1 ++ A2))).F c ∨ F1 c, B1.join (fun g1 g2 => ?_) fun c hc => hc⟩
 exact ⟨ka, kr, sp, F1, S, roots, h0, .inl ⟨_, _, List.mem_cons_self ..⟩, h1, fun c m o n y e => .inl (f1 c m o n y e), h2, fun c m o n y e => .inl (f2 c m o n y e), g2, fun c hc => .inr hc, wfS, wf, hl, hr⟩
end
theorem rowB_pre {T : Nat} {S S' : Sto} (W : WFS T S) (h : S <+: S') {r : Nat} (hr : r < S.length) : rowB T S' r = rowB T S r := by
 unfold rowB
 exact List.map_congr_left fun c _ => ev_pre W h hr c
theorem roots_step {a : Au} {S S' : Sto} {rs : List Nat} {r i : Nat} {row : List Int} (wfS : WFS a.tr S) (wf' : WFS a.tr S') (hp : S <+: S') (hr : r < S'.length) (hl : rs.length = i) (hi : a.nx[i]? = some row) (hrow : row.length = 2 ^ a.tr) (he : ∀ c, c < 2 ^ a.tr → row[c]? = some (evS S' r c))
  (h : ∀ (s r : Nat), rs[s]? = some r → r < S.length ∧ a.nx[s]? = some (rowB a.tr S r)) : ∀ (s q : Nat), (rs ++ [r])[s]? = some q → q < S'.length ∧ a.nx[s]? = some (rowB a.tr S' q) := by
 intro s q hs
 by_cases hlt : s < rs.length
 ·rw [List.getElem?_append_left hlt] at hs
  obtain ⟨h1, h2⟩ := h s q hs
  exact ⟨Nat.lt_of_lt_of_le h1 hp.length_le, by rw [h2, rowB_pre wfS hp h1]⟩
 ·have h3 := (List.getElem?_eq_some_iff.1 hs).1
  rw [List.length_append, List.length_singleton] at h3
  have h4 : s = rs.length := by omega
  subst h4
  rw [List.getElem?_append_right (Nat.le_refl _), Nat.sub_self] at hs
  injection hs with hs
  subst hs
  exact ⟨hr, by rw [hl, hi, rowB_eq hrow he]⟩

theorem aFrom_ev {st : St} (hf : Fresh st) {a : Au} (wf : WFA a) {ka kn : AV} {ls : List (List AV)} (hA : RdR st.h.get [] 1 (bC a.acc) ka) (hN : LsR st.h.get a.nx kn ls) : ∃ v st', Ev Tryz.prog envP 43 [.agg [.int .i64 (((a.tr : Nat) : Int)), ka, kn]] st v st' ∧ ∃ dp F, v = .tup [.ptr dp 0 0, .int .i64 0] ∧ DfaI st' F dp a ∧ NewF st st' F ∧ Qt st st' := by
 have htr := wf.tr; have hps := wf.pos; have hmo := wf.most; have hln := wf.len; have hen : a.n = a.acc.length := rfl; have hac := hA.cell; have hnc := hN.r.cell
 have hp64 := pow_le64 wf.tr
 have B := MemO.start hf
 refine ev_fn rfl Tryz.func43 rfl Tryz.ntmps43 rfl (by decide) (by simp) fun T hT => ?_
 have K : KnT [(0, _)] T := (.cons (hT 0) .nil)
 have M := B.mem
 refine w_seq <| w_region ?_
 refine wr_box K M rfl (cl_cons rfl (cl_cons hA.cell (cl_cons hN.r.cell cl_nil))) (by decide) fun c1 _ _ K M => ?_
 refine o1 K (os_assign rfl) rfl fun _ K => o1 K (os_assign rfl) rfl fun _ K => wr_nil ?_
 show W _ _ _ _ _ _ _
 refine w_seq <| w_seq <| w_region <| o1 K (os_load rfl (M.load (k := 0) rfl (part_agg tk_api_Auto rfl))) rfl fun _ K => ?_
 replace B := B.step M
 obtain ⟨v8, st8, ev8, rfl, q8⟩ := aIs_ev B.fresh wf (B.rd0 hf hA) (hN.old hf fun c hc => B.old c hc id)
 refine o1 K (os_call rfl ev8) rfl fun _ K => ?_
 replace B := B.quiet q8
 have M := B.mem
 refine o1 K (os_not rfl) rfl fun _ K => wr_nil ?_
 show W _ _ _ _ _ _ _
 refine w_cond (t := false) (K.opd rfl) (fun h => by cases h) (fun _ => ?_)
 refine w_skip ?_
 show W _ _ _ _ _ _ _
 refine w_seq ?_
 refine w_drawI (l := [(0, 0), (1, 0), (2, 0), (3, 0), (4, 1), (5, 0), (6, 0), (7, 0), (8, 0)]) (by kernel_rfl) ?_
 have Mq := M
 refine d1 rfl K (os_fieldAddr fo_api_Auto_1 rfl) rfl rfl fun _ K => d1 rfl K (os_load rfl (M.load (k := 0) rfl (part_one tk_S_bool rfl))) rfl rfl fun _ K => ?_
 obtain ⟨v12, st12, ev12, ks12, rfl, nr12, q12⟩ := bClone_ev M.fresh ((B.step M).rd0 hf hA) (by omega)
 refine dA rfl K (os_call rfl ev12) rfl rfl fun _ K => ?_
 obtain ⟨A12, hA12, M⟩ := M.callAcc q12 nr12
 replace M := Mem.cast (M' := ((c1, 0, [.int .i64 (((a.tr : Nat) : Int)), ka, kn]) :: (A12 ++ []))) M (by first | (simp only [List.append_assoc, List.cons_append, List.nil_append, List.append_nil, List.set_cons_zero, List.set_cons_succ]; done) | (simp only [List.append_assoc, List.cons_append, List.nil_append, List.append_nil, List.set_cons_zero, List.set_cons_succ]; rfl))
 have Mp := Mq
 have Mq := M
 refine d1 rfl K (os_fieldAddr fo_api_Auto_0 rfl) rfl rfl fun _ K => ?_
 refine wd_load1 rfl K rfl (M.load (k := 0) rfl (part_one tk_int rfl)) (Mp.load (k := 0) rfl (part_one tk_int rfl)) (eqV_one rfl) rfl (by decide) fun _ K => ?_
 replace B := B.step M
 obtain ⟨v15, st15, ev15, sp, F15, rfl, hS15, nf15, q15⟩ := bNew_ev B.fresh wf.tr
 refine dA rfl K (os_call rfl ev15) rfl rfl fun _ K => ?_
 replace B := B.new (o := stoO F15 sp a.tr []) q15 hS15.at_ nf15
 have M := B.mem
 have Mp := Mq
 have Mq := M
 refine d1 rfl K (os_build st_auto_DFA rfl ((fillA_one rfl hA12.cell rfl).trans ((fillA_any rfl rfl rfl).trans rfl))) rfl rfl fun _ K => ?_
 refine wd_box rfl K M rfl (cl_cons hA12.cell (cl_cons rfl (cl_cons rfl cl_nil))) rfl fun c17 _ _ K M => ?_
 refine d1 rfl K (os_assign rfl) rfl rfl fun _ K => wd_nil ?_
 show W _ _ _ _ _ _ _
 refine w_seq <| w_seq <| w_region <| o1 K (os_fieldAddr fo_api_Auto_2 rfl) rfl fun _ K => o1 K (os_load rfl (M.load (k := 1) rfl (part_one tk_S_S_int rfl))) rfl fun _ K => o1 K (os_lenL un_S_S_int rfl rfl hN.len) rfl fun _ K => o1 K (os_move rfl) rfl fun _ K => wr_nil ?_
 show W _ _ _ _ _ _ _
 refine w_block ?_
 refine w_loop (fun mm1 T st9 => ∃ (i : Nat) (rs : List Nat) (kr : AV) (A : Rows2) (F : Fp) (S : Sto), mm1 = a.nx.length - i ∧ KnT [(2, .nilp), (3, .int .i64 0), (4, .ptr c17 0 0), (19, kn), (20, .int .i64 (((a.nx.length : Nat) : Int))), (21, .int .i64 (((i : Nat) : Int)))] T ∧ MemO st noX st9 ((c17, 0, [v12, kr, .ptr sp 0 0]) :: (c1, 0, [.int .i64 (((a.tr : Nat) : Int)), ka, kn]) :: (A12 ++ (A ++ []))) [stoO F sp a.tr S] ∧ Acc 0 1 A kr (zC (zN rs)) ∧ i ≤ a.nx.length ∧ rs.length = i ∧ WFS a.tr S ∧ S.length ≤ i * 127 ∧ (∀ (s r : Nat), rs[s]? = some r → r < S.length ∧ a.nx[s]? = some (rowB a.tr S r))) (fun mm1 T st9 hI => ?_) _ _ _ ⟨0, [], .nils, [], _, [], rfl, (.cons (K _ _ rfl) (.cons (K _ _ rfl) (.cons (K _ _ rfl) (.cons (K _ _ rfl) (.cons (K _ _ rfl) (.cons (K _ _ rfl) .nil)))))), (B.step M).less (.refl _), .none, (Nat.zero_le _), rfl, (WFS.nil _), (Nat.zero_le _), (fun s r h => by simp at h)⟩
 obtain ⟨i, rs, kr, A, F, S, rfl, K, B, hA4, hi, hrl, wfS, hSl, hrs⟩ := hI
 have M := B.mem
 refine w_seq <| w_region <| o1 K (os_lss rfl rfl) rfl fun _ K => wr_nil ?_
 show W _ _ _ _ _ _ _
 refine w_seq ?_
 refine w_cond (K.opd rfl) (fun h22 => ?_) (fun h22 => ?_)
 ·have hb22 := h22
  replace h22 := of_decide_eq_true h22
  refine w_skip ?_
  show W _ _ _ _ _ _ _
  refine w_seq <| w_block <| w_seq <| w_region ?_
  obtain ⟨s23, hi23⟩ : ∃ x, a.nx[i]? = some x := ⟨_, List.getElem?_eq_getElem (by omega)⟩
  obtain ⟨_, hc23, w23, rfl, hr23, hz23⟩ := hN.at_ _ _ hi23
  obtain ⟨x23, m23, f23, q23, _, la23, lo23, lp23⟩ := ((B.step M).rd0 hf hN.r).load (i := i) (cs := _) hc23
  refine o1 K (os_indexAddr (j := i) el_S_S_int (congrArg some q23) rfl (by rw [hN.ln]; omega)) rfl fun _ K => o1 K (os_load rfl (lo23 _ 0 _ tk_S_int rfl)) rfl fun _ K => o1 K (os_assign rfl) rfl fun _ K => wr_nil ?_
  show W _ _ _ _ _ _ _
  refine w_drawI (l := [(5, 0), (6, 0), (7, 0), (8, 0), (9, 0), (10, 0), (1, 0), (2, 0), (3, 0), (4, 1), (11, 0), (12, 0), (0, 0), (13, 0), (14, 0), (15, 0)]) (by kernel_rfl) ?_
  have Mq := M
  refine d1 rfl K (os_move rfl) rfl rfl fun _ K => d1 rfl K (os_nil rfl rfl) rfl rfl fun _ K => d1 rfl K (os_fieldAddr fo_auto_DFA_2 rfl) rfl rfl fun _ K => d1 rfl K (os_load rfl (M.load (k := 0) rfl (part_one tk_P_bdd_Store rfl))) rfl rfl fun _ K => d1 rfl K (os_move rfl) rfl rfl fun _ K => ?_
  replace B := B.step M
  have hs24 := wf.row s23 (List.mem_of_getElem? hi23)
  have hlB : (S.length : Nat) + (2 ^ (a.tr - 0 + 1) - 1) ≤ 1000000000 := by rw [Nat.sub_zero, Nat.pow_succ]; omega
  obtain ⟨v35, st35, ev35, r35, S35, rfl, ho35, mb35, hev35⟩ := bOf_ev B.fresh (B.sto (k := 0) rfl) wf.tr wfS hlB (B.rd0 hf hr23) (B.off (k := 0) rfl hf hr23 fun _ _ _ _ _ _ => id) hs24.1 (fun x hx => by have := hs24.2 x hx; omega)
  refine dA rfl K (os_call rfl ev35) rfl rfl fun _ K => ?_
  obtain ⟨F35, B⟩ := B.callS ho35
  have M := B.mem
  have Mp := Mq
  have Mq := M
  refine d1 rfl K (os_move rfl) rfl rfl fun _ K => d1 rfl K (os_nil rfl rfl) rfl rfl fun _ K => d1 rfl K (os_fieldAddr fo_auto_DFA_1 rfl) rfl rfl fun _ K => ?_
  refine wd_load1 rfl K rfl (M.load (k := 0) rfl (part_one tk_S_int rfl)) (Mp.load (k := 0) rfl (part_one tk_S_int rfl)) (eqV_one (eqOk_len hA4.len)) rfl (by decide) fun _ K => ?_
  refine wd_bs rfl K M sl_S_int ze_int rfl rfl rfl rfl rfl fun c36 _ _ K M => ?_
  refine wd_acc00 (k2 := 0) (L := ((c36, 0, [.int .i64 (((r35 : Nat) : Int))]) :: (c17, 0, [v12, kr, .ptr sp 0 0]) :: (c1, 0, [.int .i64 (((a.tr : Nat) : Int)), ka, kn]) :: (A12 ++ []))) (A := A) (B := []) rfl K (Mem.cast (M := ((c36, 0, [.int .i64 (((r35 : Nat) : Int))]) :: (c17, 0, [v12, kr, .ptr sp 0 0]) :: (c1, 0, [.int .i64 (((a.tr : Nat) : Int)), ka, kn]) :: (A12 ++ (A ++ [])))) (M' := ((c36, 0, [.int .i64 (((r35 : Nat) : Int))]) :: (c17, 0, [v12, kr, .ptr sp 0 0]) :: (c1, 0, [.int .i64 (((a.tr : Nat) : Int)), ka, kn]) :: (A12 ++ [])) ++ (A ++ [])) M (by first | (simp only [List.append_assoc, List.cons_append, List.nil_append, List.append_nil, List.set_cons_zero, List.set_cons_succ]; done) | (simp only [List.append_assoc, List.cons_append, List.nil_append, List.append_nil, List.set_cons_zero, List.set_cons_succ]; rfl))) hA4 sl_S_int rfl rfl rfl rfl (by simp only [zC_len, List.length_map]; omega) rfl fun ks37 A37 _ _ K hA37 M => ?_
  replace M := Mem.cast (M := ((c36, 0, [.int .i64 (((r35 : Nat) : Int))]) :: (c17, 0, [v12, kr, .ptr sp 0 0]) :: (c1, 0, [.int .i64 (((a.tr : Nat) : Int)), ka, kn]) :: (A12 ++ [])) ++ (A37 ++ [])) (M' := ((c36, 0, [.int .i64 (((r35 : Nat) : Int))]) :: (c17, 0, [v12, kr, .ptr sp 0 0]) :: (c1, 0, [.int .i64 (((a.tr : Nat) : Int)), ka, kn]) :: (A12 ++ (A37 ++ [])))) M (by first | (simp only [List.append_assoc, List.cons_append, List.nil_append, List.append_nil, List.set_cons_zero, List.set_cons_succ]; done) | (simp only [List.append_assoc, List.cons_append, List.nil_append, List.append_nil, List.set_cons_zero, List.set_cons_succ]; rfl))
  have Mp := Mq
  have Mq := M
  refine d1 rfl K (os_move rfl) rfl rfl fun _ K => d1 rfl K (os_nil rfl rfl) rfl rfl fun _ K => d1 rfl K (os_fieldAddr fo_auto_DFA_1 rfl) rfl rfl fun _ K => ?_
  refine wd_store1 (k := 1) rfl K M rfl rfl rfl sz_S_int (hA37.cell) rfl fun _ M => ?_
  have Mp := Mq
  have Mq := M
  refine wd_nil ?_
  show W _ _ _ _ _ _ _
  refine w_region <| o1 K (os_add rfl rfl (by omega) (by omega)) rfl fun _ K => o1 K (os_move rfl) rfl fun _ K => wr_nil ?_
  exact ⟨_, (by omega), i + 1, rs ++ [r35], ks37, A37, _, S35, rfl, (.cons (K _ _ rfl) (.cons (K _ _ rfl) (.cons (K _ _ rfl) (.cons (K _ _ rfl) (.cons (K _ _ rfl) (.cons (K _ _ rfl) .nil)))))), (B.step M).less (.cons _ (.refl _)), (by rw [zN_snoc, zC_app]; exact hA37), (by omega), (by rw [List.length_append, hrl]; rfl), mb35.wf, (by have := mb35.len; rw [Nat.pow_succ] at this; omega), (roots_step wfS mb35.wf mb35.pre mb35.lt hrl hi23 hs24.1 hev35 hrs)⟩
 have hb22 := h22
 replace h22 := of_decide_eq_false h22
 refine w_exit ?_
 show W _ _ _ _ _ _ _
 refine w_seq <| w_region <| o1 K (os_move rfl) rfl fun _ K => o1 K (os_assign rfl) rfl fun _ K => o1 K (os_assign rfl) rfl fun _ K => wr_nil ?_
 show W _ _ _ _ _ _ _
 refine w_ret ?_
 refine ⟨.inr rfl, _, (res_two (rs_tmp K rfl) (rs_tmp K rfl)), ?_⟩
 obtain ⟨F', B'⟩ := MemO.closeD (M := []) (((B.step M).less ((.cons_cons _ (.cons _ (.refl _)))))) hA12 hA4 wfS wf (by omega) hrs
 exact ⟨_, F', rfl, B'.dfa (k := 0) rfl, B'.lo0 (k := 0) rfl, B'.qt⟩
end Go.Proofs.YtiknomepbklibaaGreatDoor
