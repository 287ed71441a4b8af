/-
  Automata: their rows, anew.
-/
import Derived.Test.YtiknomepbklibaaGreatDoorZoAuC
namespace Go.Proofs.YtiknomepbklibaaGreatDoor
open Go Go.RowKit
set_option linter.unusedVariables false
set_option linter.unusedSimpArgs false
set_option linter.unnecessarySimpa false
set_option maxRecDepth 100000
set_option maxHeartbeats 2000000

/-- An automaton's rows that are new: which ones accept, as a row of one's own; the next ones, as a thing. -/
def NewAu (st st' : St) (a : Au) (v : AV) : Prop := ∃ (ka kn : AV) (vs : List AV) (A : Rows2) (F : Fp), v = .agg [.int .i64 ((a.tr : Nat) : Int), ka, kn] ∧ Acc 0 1 A ka (bC a.acc) ∧ LsAt st'.h.get F kn vs a.nx ∧ NewF st st' F ∧ (A.map Prod.fst).Nodup ∧ ∀ c m l, (c, m, l) ∈ A → Row1 st'.h.get c m l ∧ st.n ≤ c ∧ ¬ F c
theorem MemO.newAu {st0 st st' : St} {X0 : Fp} {M : Rows2} {Os : List Ob} (B : MemO st0 X0 st M Os) (q : Qt st st') {a : Au} {v : AV} (h : NewAu st st' a v) : ∃ ka kn vs A F, v = .agg [.int .i64 ((a.tr : Nat) : Int), ka, kn] ∧ Acc 0 1 A ka (bC a.acc) ∧ MemO st0 X0 st' (M ++ (A ++ [])) (lsO F kn vs a.nx :: Os) := by
 obtain ⟨ka, kn, vs, A, F, h1, h2, h3, h4, h5, h6⟩ := h
 have B1 := B.new (o := lsO F kn vs a.nx) q h3 h4
 have hlt : ∀ c m l, (c, m, l) ∈ A → c < st'.n := fun c m l hm => (h6 c m l hm).1.lt q.fresh
 refine ⟨ka, kn, vs, A, F, h1, h2, B1.fresh, B1.le, fun c m l hm => ?_, ?_, fun c m l hm => ?_, B1.obj, B1.hi, B1.dj, fun o ho c m l hm hc => ?_, B1.old⟩
 ·rw [List.append_nil] at hm
  rcases List.mem_append.1 hm with hm | hm
  ·exact B1.row c m l hm
  ·exact (h6 c m l hm).1
 ·rw [List.append_nil, List.map_append]
  refine List.nodup_append.2 ⟨B.nodup, h5, fun x hx y hy e => ?_⟩
  subst e
  obtain ⟨⟨c, m, l⟩, k1, rfl⟩ := List.mem_map.1 hx
  obtain ⟨⟨c', m', l'⟩, k2, k3⟩ := List.mem_map.1 hy
  simp only at k3
  subst k3
  have := (B.row _ m l k1).lt B.fresh
  have := (h6 _ m' l' k2).2.1
  omega
 ·rw [List.append_nil] at hm
  rcases List.mem_append.1 hm with hm | hm
  ·exact B1.lo c m l hm
  ·exact .inl (Nat.le_trans B.le (h6 c m l hm).2.1)
 ·rw [List.append_nil] at hm
  rcases List.mem_append.1 hm with hm | hm
  ·exact B1.djM o ho c m l hm hc
  ·rcases List.mem_cons.1 ho with rfl | ho
   ·exact (h6 c m l hm).2.2 hc
   ·have := (B.hi o ho c hc).1
    have := (h6 c m l hm).2.1
    omega
theorem MemO.toNewAu {st0 st : St} {M A : Rows2} {Os : List Ob} {F : Fp} {ka kn : AV} {vs : List AV} {a : Au} (B : MemO st0 noX st (M ++ (A ++ [])) (lsO F kn vs a.nx :: Os)) (hA : Acc 0 1 A ka (bC a.acc)) : NewAu st0 st a (.agg [.int .i64 ((a.tr : Nat) : Int), ka, kn]) := by
 have hn := B.nodup
 rw [List.append_nil, List.map_append] at hn
 refine ⟨ka, kn, vs, A, F, rfl, hA, B.at_ (k := 0) rfl, B.lo0 (k := 0) rfl, (List.nodup_append.1 hn).2.1, fun c m l hm => ⟨B.row c m l (by simp [hm]), (B.lo c m l (by simp [hm])).resolve_right id, B.djM _ (List.mem_cons_self ..) c m l (by simp [hm])⟩⟩
section
variable {P : Program} {G : Env} {N : Nat} {h0 : Hp} {n0 : Nat} {X : List Nat} {st : St} {L A B : Rows1} {T : Tr AV} {ops : List Oper} {K : List (Nat × AV)} {R : Tr AV → St → Prop} {d : Nat} {ty : TypeId} {pos : String} {af : Array Edge}
theorem wd_accX {sn : List St} {i : Nat} {rr : List (Nat × Nat)} {x y : Operand} {t e : TypeId} {c2 m2 k2 : Nat} {ks v : AV} {vs : List AV} (ho : ops[i]? = some ⟨some d, .call { callee := .builtin .append, args := #[x, y], argTypes := #[t, t] }, ty, pos, af, none⟩) (hK : KnT K T) (hM : Mem h0 n0 X st (L ++ (A ++ B))) (hA : AccX A ks vs) (S : SlT P t e 1) (hx : opK G K x = some ks) (hy : opK G K y = some (.sl c2 m2 0 1 1)) (hk : (L ++ (A ++ B))[k2]? = some (c2, m2, [v])) (hb : vs.length + 1 ≤ 1000000000) (hN : Nat.ble (d + 1) N = true)
  (hn : ∀ (ks' : AV) A' T' st', KnT ((d, ks') :: K) T' → AccX A' ks' (vs ++ [v]) → (∀ c m l, (c, m, l) ∈ A' → (∃ m l, (c, m, l) ∈ A) ∨ st.n ≤ c) → Mem h0 n0 X st' (L ++ (A' ++ B)) → WD P G N ops (rr.map (plF ops)) R T' st' (st' :: sn)) : WD P G N ops (((i, 0) :: rr).map (plF ops)) R T st sn := by
 obtain ⟨ks', A', st1, h1, h2, h3, h4⟩ := hM.accX1 hA S hk hb
 exact wd_act ho hK (os_append rfl hx hy h1) rfl (Nat.le_of_ble_eq_true hN) fun T' hT' => hn ks' A' T' st1 hT' h2 h4 h3
end

theorem dTo_ev {st : St} (hf : Fresh st) {F : Fp} {dp : Nat} {a : Au} {ka kr : AV} {sp : Nat} {F1 : Fp} {S : Sto} {roots : List Nat} (hX : DfaX st F dp a ka kr sp F1 S roots) : ∃ v st', Ev Tryz.prog envP 17 [.ptr dp 0 0] st v st' ∧ NewAu st st' a v ∧ Qt st st' := by
 have wf := hX.wf; have hen : a.n = a.acc.length := rfl; have hrl := hX.len; have hmo := wf.most; have hln := wf.len; have htr := wf.tr
 have hp64 := pow_le64 wf.tr
 have B := MemO.start hf
 refine ev_fn rfl Tryz.func17 rfl Tryz.ntmps17 rfl (by decide) (by simp) fun T hT => ?_
 have K : KnT [(0, _)] T := (.cons (hT 0) .nil)
 have M := B.mem
 refine w_seq <| w_region ?_
 refine wr_alloc K M ze_api_Auto (by decide) fun c2 _ _ K M => ?_
 refine wr_nil ?_
 show W _ _ _ _ _ _ _
 refine w_seq <| w_seq <| w_region <| o1 K (os_move rfl) rfl fun _ K => o1 K (os_eqPN un_P_auto_DFA rfl rfl) rfl fun _ K => wr_nil ?_
 show W _ _ _ _ _ _ _
 refine w_cond (t := false) (K.opd rfl) (fun h => by cases h) (fun _ => ?_)
 refine w_skip ?_
 show W _ _ _ _ _ _ _
 refine w_seq ?_
 refine w_drawI (l := [(0, 0), (1, 0), (2, 0), (3, 0), (4, 0), (5, 1), (6, 0), (7, 0), (8, 0), (9, 0)]) (by kernel_rfl) ?_
 have Mq := M
 refine d1 rfl K (os_move rfl) rfl rfl fun _ K => ?_
 obtain ⟨v10, st10, ev10, rfl, q10⟩ := dTracks_ev M.fresh (hX.q (B.step M).qt)
 refine dA rfl K (os_call rfl ev10) rfl rfl fun _ K => ?_
 replace M := M.quiet q10
 have Mp := Mq
 have Mq := M
 refine d1 rfl K (os_move rfl) rfl rfl fun _ K => d1 rfl K (os_nil rfl rfl) rfl rfl fun _ K => d1 rfl K (os_fieldAddr fo_auto_DFA_0 rfl) rfl rfl fun _ K => ?_
 refine wd_load1 rfl K rfl (ld_row ((B.step M).rowS hf hX.row.rowV id) (part_one tk_S_bool rfl)) (ld_row ((B.step Mp).rowS hf hX.row.rowV id) (part_one tk_S_bool rfl)) (eqV_one (eqOk_len (hX.acc.len.trans (congrArg some (bC_len _))))) rfl (by decide) fun _ K => ?_
 obtain ⟨v15, st15, ev15, ks15, rfl, nr15, q15⟩ := bClone_ev M.fresh ((B.step M).rd0 hf hX.acc) (by omega)
 refine dA rfl K (os_call rfl ev15) rfl rfl fun _ K => ?_
 obtain ⟨A15, hA15, M⟩ := M.callAcc q15 nr15
 replace hA15 := hA15.z0
 replace M := Mem.cast (M' := ((c2, 0, [.int .i64 0, .nils, .nils]) :: (A15 ++ []))) M (by first | (simp only [List.append_assoc, List.cons_append, List.nil_append, List.append_nil, List.set_cons_zero, List.set_cons_succ]; done) | (simp only [List.append_assoc, List.cons_append, List.nil_append, List.append_nil, List.set_cons_zero, List.set_cons_succ]; rfl))
 have Mp := Mq
 have Mq := M
 refine d1 rfl K (os_build st_api_Auto rfl ((fillA_any rfl rfl rfl).trans ((fillA_one rfl hA15.cell rfl).trans rfl))) rfl rfl fun _ K => ?_
 refine wd_alloc rfl K M ze_api_Auto (by decide) fun c3 _ _ K M => ?_
 refine wd_store (k := 0) rfl K M rfl rfl rfl sz_api_Auto rfl (cl_cons rfl (cl_cons hA15.cell (cl_cons rfl cl_nil))) rfl fun _ M => ?_
 have Mp := Mq
 have Mq := M
 refine wd_nil ?_
 show W _ _ _ _ _ _ _
 refine w_seq <| w_seq ?_
 replace B := (B.step M).noRows
 have M := B.mem
 refine w_region <| o1 K (os_move rfl) rfl fun _ K => o1 K (os_nil rfl rfl) rfl fun _ K => o1 K (os_fieldAddr fo_auto_DFA_1 rfl) rfl fun _ K => o1 K (os_load rfl (ld_row ((B.step M).rowS hf hX.row.rowV id) (part_one tk_S_int rfl))) rfl fun _ K => o1 K (os_lenL un_S_int rfl rfl (hX.rt.len.trans (congrArg some (by rw [zC_len, List.length_map])))) rfl fun _ K => o1 K (os_move rfl) rfl fun _ K => wr_nil ?_
 show W _ _ _ _ _ _ _
 refine w_block ?_
 refine w_loop (fun mm1 T st9 => ∃ (i : Nat) (vs : List AV) (kn : AV) (A : Rows2) (F : Fp), mm1 = roots.length - i ∧ KnT [(0, .ptr dp 0 0), (2, .ptr c2 0 0), (3, .ptr c3 0 0), (20, kr), (21, .int .i64 (((roots.length : Nat) : Int))), (22, .int .i64 (((i : Nat) : Int)))] T ∧ MemO st noX st9 ((c3, 0, [.int .i64 (((a.tr : Nat) : Int)), v15, kn]) :: (c2, 0, [.int .i64 0, .nils, .nils]) :: (A15 ++ (A ++ []))) [vsO F vs (a.nx.take i)] ∧ AccX A kn vs ∧ i ≤ roots.length) (fun mm1 T st9 hI => ?_) _ _ _ ⟨0, [], .nils, [], _, rfl, (.cons (K _ _ rfl) (.cons (K _ _ rfl) (.cons (K _ _ rfl) (.cons (K _ _ rfl) (.cons (K _ _ rfl) (.cons (K _ _ rfl) .nil)))))), (B.step M).less (.refl _), .none, (Nat.zero_le _)⟩
 obtain ⟨i, vs, kn, A, F, rfl, K, B, hA4, hi⟩ := hI
 have M := B.mem
 refine w_seq <| w_region <| o1 K (os_lss rfl rfl) rfl fun _ K => wr_nil ?_
 show W _ _ _ _ _ _ _
 refine w_seq ?_
 refine w_cond (K.opd rfl) (fun h23 => ?_) (fun h23 => ?_)
 ·have hb23 := h23
  replace h23 := of_decide_eq_true h23
  refine w_skip ?_
  show W _ _ _ _ _ _ _
  refine w_seq <| w_block <| w_seq <| w_region ?_
  obtain ⟨y24, hi24⟩ : ∃ x, roots[i]? = some x := ⟨_, List.getElem?_eq_getElem (by omega)⟩
  obtain ⟨x24, m24, f24, q24, _, la24, lo24, lp24⟩ := ((B.step M).rd0 hf hX.rt).load (i := i) (cs := _) (zN_get hi24)
  refine o1 K (os_indexAddr (j := i) el_S_int (congrArg some q24) rfl (by rw [zC_len, List.length_map]; omega)) rfl fun _ K => o1 K (os_load rfl (lo24 _ 0 _ tk_int rfl)) rfl fun _ K => o1 K (os_assign rfl) rfl fun _ K => wr_nil ?_
  show W _ _ _ _ _ _ _
  refine w_drawI (l := [(2, 0), (3, 0), (4, 0), (5, 0), (6, 0), (7, 0), (0, 0), (1, 1), (8, 0), (9, 0), (10, 0), (11, 0)]) (by kernel_rfl) ?_
  have Mq := M
  refine d1 rfl K (os_move rfl) rfl rfl fun _ K => d1 rfl K (os_nil rfl rfl) rfl rfl fun _ K => d1 rfl K (os_fieldAddr fo_auto_DFA_2 rfl) rfl rfl fun _ K => d1 rfl K (os_load rfl (ld_row ((B.step M).rowS hf hX.row.rowV id) (part_one tk_P_bdd_Store rfl))) rfl rfl fun _ K => d1 rfl K (os_move rfl) rfl rfl fun _ K => ?_
  obtain ⟨hr1, hr2⟩ := hX.rts _ _ hi24
  have hXi := (hX.q (B.step M).qt).i
  obtain ⟨v33, st33, ev33, ks33, rfl, nr33, q33⟩ := bRow_ev M.fresh hXi wf.tr hX.wfS hr1
  refine dA rfl K (os_call rfl ev33) rfl rfl fun _ K => ?_
  obtain ⟨A33, hA33, M⟩ := M.callAcc q33 nr33
  replace hA33 := hA33.z0
  replace M := Mem.cast (M' := ((c3, 0, [.int .i64 (((a.tr : Nat) : Int)), v15, kn]) :: (c2, 0, [.int .i64 0, .nils, .nils]) :: (A15 ++ (A ++ (A33 ++ []))))) M (by first | (simp only [List.append_assoc, List.cons_append, List.nil_append, List.append_nil, List.set_cons_zero, List.set_cons_succ]; done) | (simp only [List.append_assoc, List.cons_append, List.nil_append, List.append_nil, List.set_cons_zero, List.set_cons_succ]; rfl))
  have Mp := Mq
  have Mq := M
  refine d1 rfl K (os_fieldAddr fo_api_Auto_2 rfl) rfl rfl fun _ K => ?_
  refine wd_load1 rfl K rfl (M.load (k := 0) rfl (part_one tk_S_S_int rfl)) (Mp.load (k := 0) rfl (part_one tk_S_S_int rfl)) (eqV_one (eqOk_len hA4.len)) rfl (by decide) fun _ K => ?_
  refine wd_bs rfl K M sl_S_S_int ze_S_int rfl ((fillA_one rfl hA33.cell rfl).trans rfl) (cl_cons hA33.cell cl_nil) rfl rfl fun c34 _ _ K M => ?_
  refine wd_accX (k2 := 0) (L := ((c34, 0, [v33]) :: (c3, 0, [.int .i64 (((a.tr : Nat) : Int)), v15, kn]) :: (c2, 0, [.int .i64 0, .nils, .nils]) :: (A15 ++ []))) (A := A) (B := (A33 ++ [])) rfl K (Mem.cast (M := ((c34, 0, [v33]) :: (c3, 0, [.int .i64 (((a.tr : Nat) : Int)), v15, kn]) :: (c2, 0, [.int .i64 0, .nils, .nils]) :: (A15 ++ (A ++ (A33 ++ []))))) (M' := ((c34, 0, [v33]) :: (c3, 0, [.int .i64 (((a.tr : Nat) : Int)), v15, kn]) :: (c2, 0, [.int .i64 0, .nils, .nils]) :: (A15 ++ [])) ++ (A ++ (A33 ++ []))) M (by first | (simp only [List.append_assoc, List.cons_append, List.nil_append, List.append_nil, List.set_cons_zero, List.set_cons_succ]; done) | (simp only [List.append_assoc, List.cons_append, List.nil_append, List.append_nil, List.set_cons_zero, List.set_cons_succ]; rfl))) hA4 sl_S_S_int rfl rfl rfl (by have := ((B.step M).at_ (k := 0) rfl).ln; rw [List.length_take] at this; omega) rfl fun ks35 A35 _ _ K hA35 _ M => ?_
  replace M := Mem.cast (M := ((c34, 0, [v33]) :: (c3, 0, [.int .i64 (((a.tr : Nat) : Int)), v15, kn]) :: (c2, 0, [.int .i64 0, .nils, .nils]) :: (A15 ++ [])) ++ (A35 ++ (A33 ++ []))) (M' := ((c34, 0, [v33]) :: (c3, 0, [.int .i64 (((a.tr : Nat) : Int)), v15, kn]) :: (c2, 0, [.int .i64 0, .nils, .nils]) :: (A15 ++ (A35 ++ (A33 ++ []))))) M (by first | (simp only [List.append_assoc, List.cons_append, List.nil_append, List.append_nil, List.set_cons_zero, List.set_cons_succ]; done) | (simp only [List.append_assoc, List.cons_append, List.nil_append, List.append_nil, List.set_cons_zero, List.set_cons_succ]; rfl))
  refine d1 rfl K (os_fieldAddr fo_api_Auto_2 rfl) rfl rfl fun _ K => ?_
  refine wd_store1 (k := 1) rfl K M rfl rfl rfl sz_S_S_int (hA35.cell) rfl fun _ M => ?_
  have Mp := Mq
  have Mq := M
  refine wd_nil ?_
  show W _ _ _ _ _ _ _
  refine w_region <| o1 K (os_add rfl rfl (by omega) (by omega)) rfl fun _ K => o1 K (os_move rfl) rfl fun _ K => wr_nil ?_
  replace B := B.step M
  obtain ⟨Fr, B⟩ := MemO.addRow (L := ((c34, 0, [v33]) :: (c3, 0, [.int .i64 (((a.tr : Nat) : Int)), v15, ks35]) :: (c2, 0, [.int .i64 0, .nils, .nils]) :: (A15 ++ (A35 ++ [])))) (A := A33) (B := []) (B.cast (by first | (simp only [List.append_assoc, List.cons_append, List.nil_append, List.append_nil, List.set_cons_zero, List.set_cons_succ]; done) | (simp only [List.append_assoc, List.cons_append, List.nil_append, List.append_nil, List.set_cons_zero, List.set_cons_succ]; rfl))) hA33 (wf.in64 _ (List.mem_of_getElem? hr2))
  replace B := B.cast (M' := ((c34, 0, [v33]) :: (c3, 0, [.int .i64 (((a.tr : Nat) : Int)), v15, ks35]) :: (c2, 0, [.int .i64 0, .nils, .nils]) :: (A15 ++ (A35 ++ [])))) (by first | (simp only [List.append_assoc, List.cons_append, List.nil_append, List.append_nil, List.set_cons_zero, List.set_cons_succ]; done) | (simp only [List.append_assoc, List.cons_append, List.nil_append, List.append_nil, List.set_cons_zero, List.set_cons_succ]; rfl))
  have htk : a.nx.take i ++ [rowB a.tr S y24] = a.nx.take (i + 1) := by rw [List.take_add_one, hr2]; rfl
  rw [htk] at B
  have M := B.mem
  exact ⟨_, (by omega), i + 1, _, ks35, A35, _, rfl, (.cons (K _ _ rfl) (.cons (K _ _ rfl) (.cons (K _ _ rfl) (.cons (K _ _ rfl) (.cons (K _ _ rfl) (.cons (K _ _ rfl) .nil)))))), (B.step M).less (.cons _ (.refl _)), hA35, (by omega)⟩
 have hb23 := h23
 replace h23 := of_decide_eq_false h23
 refine w_exit ?_
 show W _ _ _ _ _ _ _
 refine w_seq <| w_region <| o1 K (os_load rfl (M.load (k := 0) rfl (part_agg tk_api_Auto rfl))) rfl fun _ K => ?_
 refine wr_store (k := 1) K M rfl rfl rfl sz_api_Auto rfl (cl_cons rfl (cl_cons hA15.cell (cl_cons hA4.cell cl_nil))) rfl fun _ M => ?_
 refine wr_nil ?_
 show W _ _ _ _ _ _ _
 refine w_ret ?_
 refine ⟨.inr rfl, _, (res_one (rs_cell K rfl (M.load (k := 1) rfl (part_agg tk_api_Auto rfl)))), ?_⟩
 refine ⟨?_, (B.step M).qt⟩
 replace B := B.step M
 have hti : a.nx.take i = a.nx := List.take_of_length_le (by omega)
 rw [hti] at B
 obtain ⟨F', B'⟩ := MemO.toLs (L := ((c3, 0, [.int .i64 (((a.tr : Nat) : Int)), v15, kn]) :: (c2, 0, [.int .i64 (((a.tr : Nat) : Int)), v15, kn]) :: A15)) (A := A) (B := []) (B.cast (by first | (simp only [List.append_assoc, List.cons_append, List.nil_append, List.append_nil, List.set_cons_zero, List.set_cons_succ]; done) | (simp only [List.append_assoc, List.cons_append, List.nil_append, List.append_nil, List.set_cons_zero, List.set_cons_succ]; rfl))) hA4
 exact MemO.toNewAu (M := [(c3, 0, [.int .i64 (((a.tr : Nat) : Int)), v15, kn]), (c2, 0, [.int .i64 (((a.tr : Nat) : Int)), v15, kn])]) (A := A15) (B'.cast (by simp)) hA15

theorem dTo_i {st : St} (hf : Fresh st) {F : Fp} {dp : Nat} {a : Au} (hD : DfaI st F dp a) : ∃ v st', Ev Tryz.prog envP 17 [.ptr dp 0 0] st v st' ∧ NewAu st st' a v ∧ Qt st st' := by
 obtain ⟨_, _, _, _, _, _, hX⟩ := hD.x
 exact dTo_ev hf hX
end Go.Proofs.YtiknomepbklibaaGreatDoor
