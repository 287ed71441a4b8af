/-
  free.Put: what is put within what binds a name, and in any node.
-/
import Derived.Test.YtmjnbdkjekdkgaaDoorFbPut
namespace Go.Proofs.YtmjnbdkjekdkgaaDoor
open Go Go.RowKit
set_option linter.unusedVariables false
set_option linter.unusedSimpArgs false
set_option linter.unnecessarySimpa false
set_option maxRecDepth 100000
set_option maxHeartbeats 1000000

/-- Pairs that are handed back: their names, their terms. -/
def OnlyV (R : Rws) (st st' : St) (pl : List (List Nat × Nd)) (v : AV) : Prop := ∃ kx ky A B lsn, v = .agg [kx, ky] ∧ Acc st.n 1 A kx (txC (pl.map Prod.fst)) ∧ Acc st.n 5 B ky lsn ∧ lsn.length = pl.length ∧ MapG R Prod.snd pl lsn ∧ Seg st.n st' (A ++ B)
theorem onlyN_cons (ns : List (List Nat)) (ts : List Nd) (but y : List Nat) (r : List (List Nat)) : onlyN ns ts but (y :: r) = (if y = but then [] else match lookT ns ts y with | some t => [(y, t)] | none => []) ++ onlyN ns ts but r := by
 unfold onlyN
 rw [List.filterMap_cons]
 split
 ·rename_i h
  split at h
  ·rename_i e; rw [if_pos e]; rfl
  ·rename_i e
   rw [if_neg e]
   cases h2 : lookT ns ts y with
   | none => rfl
   | some t => rw [h2] at h; cases h
 ·rename_i b h
  split at h
  ·cases h
  ·rename_i e
   rw [if_neg e]
   cases h2 : lookT ns ts y with
   | none => rw [h2] at h; cases h
   | some t => rw [h2] at h; injection h with h; subst h; rfl
theorem only_step {ns : List (List Nat)} {ts : List Nd} {but y : List Nat} {l : List (List Nat)} {i : Nat} (h : l[i]? = some y) : onlyN ns ts but (l.drop i) = (if y = but then [] else match lookT ns ts y with | some t => [(y, t)] | none => []) ++ onlyN ns ts but (l.drop (i + 1)) := by
 obtain ⟨h1, h2⟩ := List.getElem?_eq_some_iff.1 h
 rw [List.drop_eq_getElem_cons h1, h2, onlyN_cons]
theorem onlyN_le (ns : List (List Nat)) (ts : List Nd) (but : List Nat) (l : List (List Nat)) : (onlyN ns ts but l).length ≤ l.length := List.length_filterMap_le _ _
theorem onlyN_mem {ns : List (List Nat)} {ts : List Nd} {but : List Nat} {l : List (List Nat)} {p : List Nat × Nd} (h : p ∈ onlyN ns ts but l) : p.1 ∈ l ∧ p.1 ≠ but ∧ lookT ns ts p.1 = some p.2 := by
 obtain ⟨s, hs, h⟩ := List.mem_filterMap.1 h
 split at h
 ·cases h
 ·rename_i e
  obtain ⟨t, h1, rfl⟩ := Option.map_eq_some_iff.1 h
  exact ⟨hs, e, h1⟩
theorem lookT_mem {s : List Nat} {t : Nd} : ∀ {ns : List (List Nat)} {ts : List Nd}, lookT ns ts s = some t → t ∈ ts
 | [], ts, h => by rw [lookT_none] at h; cases h
 | n :: ns, [], h => by cases h
 | n :: ns, t' :: ts, h => by
  rw [lookT] at h
  split at h
  ·injection h with h; subst h; exact List.mem_cons_self ..
  ·exact List.mem_cons_of_mem _ (lookT_mem h)
theorem pOnly_ev {R : Rws} {ns : List (List Nat)} {ts : List Nd} {kn kt : AV} {lts : List (List AV)} {st : St} (hf : Fresh st) (hR : inH R st.h.get) (hN : RdR st.h.get [] 1 (txC ns) kn) (hTs : KidsG R ts kt lts) {o s : List Nat} {z a : Int} {l : List Nd} {cs : List AV} (hr : RdG R (.mk o s z a l) cs) (but : List Nat) (hsz : szN (.mk o s z a l) ≤ 500000) : ∃ v st', Ev Tryd.prog envD 104 [.agg [kn, kt], .agg cs, .str but] st v st' ∧ OnlyV R st st' (onlyN ns ts but (freeN (.mk o s z a l))) v ∧ Qt st st' := by
 have hr0 := hr
 obtain ⟨kk, ls, rfl, hK, hb⟩ := hr.open5
 have hln := hK.ln
 have hbn := hK.bnd
 have hfl := freeN_len (.mk o s z a l)
 refine J5 rfl Tryd.func104 rfl Tryd.ntmps104 rfl (by decide) (by simp) fun T hT => ?_
 have K : KnT [(0, _), (1, _), (2, _)] T := (.cons (hT 0) (.cons (hT 1) (.cons (hT 2) .nil)))
 have M := Mem.start hf
 refine Qh <| Qa ?_
 refine Ub K M rfl (Qf hN.cell (Qf hTs.cell Q7)) (by decide) fun c3 _ _ K M => ?_
 refine Ub K M rfl (Qf rfl (Qf rfl (Qf rfl (Qf rfl (Qf hK.cell Q7))))) (by decide) fun c4 _ _ K M => ?_
 refine Jy K M ze_free_put (by decide) fun c6 _ _ K M => ?_
 refine Qd ?_
 show W _ _ _ _ _ _ _
 refine Qh <| Qa ?_
 refine Jy K M ze_free_put (by decide) fun c7 _ _ K M => ?_
 refine Qd ?_
 show W _ _ _ _ _ _ _
 refine Qh <| Qh <| Qa <| o1 K (Qg rfl (M.load (k := 2) rfl (Ql Qi rfl))) rfl fun _ K => ?_
 obtain ⟨v13, st13, ev13, nr13, q13⟩ := tNamesP_ev M.fresh (hr0.toN (M.inH hR)) (by omega)
 refine o1 K (Qn rfl ev13) rfl fun _ K => ?_
 obtain ⟨A13, hA13, M⟩ := M.callPAcc q13 nr13
 replace M := Mem.cast (M' := ((c7, 0, [.nils, .nils]) :: (c6, 0, [.nils, .nils]) :: (c4, 0, [.str o, .str s, .int .i64 z, .int .i64 a, kk]) :: (c3, 0, [kn, kt]) :: (A13 ++ []))) M (by first | (simp only [List.append_assoc, List.cons_append, List.nil_append, List.append_nil, List.set_cons_zero, List.set_cons_succ]; done) | (simp only [List.append_assoc, List.cons_append, List.nil_append, List.append_nil, List.set_cons_zero, List.set_cons_succ]; rfl))
 refine o1 K (Jn un_S_string rfl rfl hA13.len) rfl fun _ K => o1 K (Qc rfl) rfl fun _ K => Qd ?_
 show W _ _ _ _ _ _ _
 refine Q5 ?_
 refine w_loop (fun mm1 T st9 => ∃ (i : Nat) (pl : List (List Nat × Nd)) (ka : AV) (kb : AV) (A : Rows0) (B : Rows0) (lsn : List (List AV)), mm1 = (freeN (.mk o s z a l)).length - i ∧ KnT [(2, .str but), (3, .ptr c3 0 0), (6, .ptr c6 0 0), (7, .ptr c7 0 0), (13, v13), (14, .int .i64 ((((freeN (.mk o s z a l)).length : Nat) : Int))), (15, .int .i64 (((i : Nat) : Int)))] T ∧ Mem st.h.get st.n [] st9 ((c7, 0, [ka, kb]) :: (c6, 0, [.nils, .nils]) :: (c4, 0, [.str o, .str s, .int .i64 z, .int .i64 a, kk]) :: (c3, 0, [kn, kt]) :: (A13 ++ (A ++ (B ++ [])))) ∧ Acc st.n 1 A ka (txC (pl.map Prod.fst)) ∧ Acc st.n 5 B kb lsn ∧ i ≤ (freeN (.mk o s z a l)).length ∧ lsn.length = pl.length ∧ MapG R Prod.snd pl lsn ∧ onlyN ns ts but (freeN (.mk o s z a l)) = pl ++ onlyN ns ts but ((freeN (.mk o s z a l)).drop i) ∧ pl.length ≤ i) (fun mm1 T st9 hI => ?_) _ _ _ ⟨0, [], .nils, .nils, [], [], [], rfl, (.cons (K _ _ rfl) (.cons (K _ _ rfl) (.cons (K _ _ rfl) (.cons (K _ _ rfl) (.cons (K _ _ rfl) (.cons (K _ _ rfl) (.cons (K _ _ rfl) .nil))))))), M.less (.refl _), .none, .none, (Nat.zero_le _), rfl, (fun j k cs h1 h2 => by simp at h1), rfl, (Nat.le_refl _)⟩
 obtain ⟨i, pl, ka, kb, A, B, lsn, rfl, K, M, hA, hB, hi, hlen, hmap, hinv, hpi⟩ := hI
 refine Qh <| Qa <| o1 K (os_lss rfl rfl) rfl fun _ K => Qd ?_
 show W _ _ _ _ _ _ _
 refine Qh ?_
 refine Qr (K.opd rfl) (fun h16 => ?_) (fun h16 => ?_)
 ·have hb16 := h16
  replace h16 := of_decide_eq_true h16
  refine Q3 ?_
  show W _ _ _ _ _ _ _
  refine Qh <| Q5 <| Qh <| Qa ?_
  obtain ⟨y17, hi17⟩ : ∃ x, (freeN (.mk o s z a l))[i]? = some x := ⟨_, List.getElem?_eq_getElem (by omega)⟩
  obtain ⟨x17, m17, f17, q17, _, la17, lo17, lp17⟩ := (Mem.paccR (L := [(c7, 0, [ka, kb]), (c6, 0, [.nils, .nils]), (c4, 0, [.str o, .str s, .int .i64 z, .int .i64 a, kk]), (c3, 0, [kn, kt])]) (A := A13) (B := (A ++ (B ++ []))) M hA13).load (i := i) (cs := _) (txC_get hi17)
  refine o1 K (Q0 (j := i) el_S_string (congrArg some q17) rfl (by rw [Jc]; omega)) rfl fun _ K => o1 K (Qg rfl (lo17 _ 0 _ Qx rfl)) rfl fun _ K => o1 K (Qb rfl) rfl fun _ K => Qd ?_
  show W _ _ _ _ _ _ _
  refine Qh <| Qa <| o1 K (Qg rfl (M.load (k := 3) rfl (Ql Ug rfl))) rfl fun _ K => o1 K (Qc rfl) rfl fun _ K => ?_
  obtain ⟨v22, st22, ev22, ⟨o22, s22, z22, a22, kk22, bb22, rfl, ⟨nk22, hc22⟩, hT22⟩, q22⟩ := pTerm_ev M.fresh (M.inH hR) (RdR.mem M hN (by simp)) hTs y17
  refine o1 K (Qn rfl ev22) rfl fun _ K => ?_
  replace M := M.quiet q22
  refine o1 K (Qc rfl) rfl fun _ K => o1 K (Jx rfl rfl) rfl fun _ K => o1 K (Jx rfl rfl) rfl fun _ K => ?_
  refine Jy K M Jd (by decide) fun c10 _ _ K M => ?_
  refine Qz (k := 0) K M rfl rfl rfl Q6 rfl (Qf rfl (Qf rfl (Qf rfl (Qf rfl (Qf (slLen_cell hc22) Q7))))) rfl fun _ M => ?_
  refine o1 K (Qb rfl) rfl fun _ K => Qd ?_
  show W _ _ _ _ _ _ _
  refine Qh <| Qa <| o1 K (Qc rfl) rfl fun _ K => ?_
  refine oB K (Qc rfl) rfl fun b26 _ e26 K => ?_
  cases b26
  ·refine gn K rfl rfl rfl rfl fun _ K => gn K rfl rfl rfl rfl fun _ K => gn K rfl rfl rfl rfl fun _ K => o1 K (Qj rfl rfl rfl) rfl fun _ K => Qd ?_
   show W _ _ _ _ _ _ _
   refine Qr (t := false) (K.opd rfl) (fun h => by cases h) (fun _ => ?_)
   refine Q3 ?_
   show W _ _ _ _ _ _ _
   refine Qa <| o1 K (Jm rfl rfl (by omega) (by omega)) rfl fun _ K => o1 K (Qc rfl) rfl fun _ K => Qd ?_
   have hno : (if y17 = but then [] else match lookT ns ts y17 with | some t => [(y17, t)] | none => []) = ([] : List (List Nat × Nd)) := by
    rcases hT22 with ⟨h, l, h1, h2⟩ | ⟨h, h1⟩
    ·rw [if_pos (by simp_all)]
    ·rw [h1]; split <;> rfl
   exact ⟨_, (by omega), i + 1, pl, ka, kb, A, B, lsn, rfl, (.cons (K _ _ rfl) (.cons (K _ _ rfl) (.cons (K _ _ rfl) (.cons (K _ _ rfl) (.cons (K _ _ rfl) (.cons (K _ _ rfl) (.cons (K _ _ rfl) .nil))))))), M.less (.cons _ (.refl _)), (by first | exact hA | (rw [List.map_append, txC_app]; exact hA35)), (by first | exact hB | exact hA40), (by omega), (by first | exact hlen | (simp only [List.length_append, hlen, List.length_cons, List.length_nil]; done)), (by first | exact hmap | exact hmap.snocS hlen hG22), (by first | (rw [hinv, only_step hi17, hno]; rfl) | (rw [hinv, only_step hi17, if_neg (by simp_all), hL22, List.append_assoc]; done)), (by first | omega | (rw [List.length_append]; simp; omega))⟩
  refine og K rfl rfl (Qc rfl) rfl fun _ K => og K rfl rfl (Qc rfl) rfl fun _ K => og K rfl rfl (os_neS rfl rfl) rfl fun _ K => o1 K (Qj rfl rfl rfl) rfl fun _ K => Qd ?_
  show W _ _ _ _ _ _ _
  refine Qr (K.opd rfl) (fun h30 => ?_) (fun h30 => ?_)
  ·have hb30 := h30
   replace h30 : ¬ (y17 = but) := by simpa using h30
   refine w_drawI (l := [(0, 0), (1, 0), (2, 0), (3, 0), (4, 0), (5, 0), (6, 1), (7, 1), (8, 0), (9, 0), (10, 0), (11, 0), (12, 0), (13, 0)]) (by kernel_rfl) ?_
   have Mq := M
   refine d1 rfl K (Qe fo_free_put_0 rfl) rfl rfl fun _ K => d1 rfl K (Qg rfl (M.load (k := 1) rfl (Qk tk_S_string rfl))) rfl rfl fun _ K => d1 rfl K (Qc rfl) rfl rfl fun _ K => ?_
   refine wd_bs rfl K M Jv ze_string rfl rfl rfl rfl rfl fun c34 _ _ K M => ?_
   refine wd_acc1 (k2 := 0) (L := ((c34, 0, [.str y17]) :: (c10, 0, [.str o22, .str s22, .int .i64 z22, .int .i64 a22, kk22]) :: (c7, 0, [ka, kb]) :: (c6, 0, [.nils, .nils]) :: (c4, 0, [.str o, .str s, .int .i64 z, .int .i64 a, kk]) :: (c3, 0, [kn, kt]) :: (A13 ++ []))) (A := A) (B := (B ++ [])) rfl K (Mem.cast (M := ((c34, 0, [.str y17]) :: (c10, 0, [.str o22, .str s22, .int .i64 z22, .int .i64 a22, kk22]) :: (c7, 0, [ka, kb]) :: (c6, 0, [.nils, .nils]) :: (c4, 0, [.str o, .str s, .int .i64 z, .int .i64 a, kk]) :: (c3, 0, [kn, kt]) :: (A13 ++ (A ++ (B ++ []))))) (M' := ((c34, 0, [.str y17]) :: (c10, 0, [.str o22, .str s22, .int .i64 z22, .int .i64 a22, kk22]) :: (c7, 0, [ka, kb]) :: (c6, 0, [.nils, .nils]) :: (c4, 0, [.str o, .str s, .int .i64 z, .int .i64 a, kk]) :: (c3, 0, [kn, kt]) :: (A13 ++ [])) ++ (A ++ (B ++ []))) M (by first | (simp only [List.append_assoc, List.cons_append, List.nil_append, List.append_nil, List.set_cons_zero, List.set_cons_succ]; done) | (simp only [List.append_assoc, List.cons_append, List.nil_append, List.append_nil, List.set_cons_zero, List.set_cons_succ]; rfl))) hA Jv rfl rfl rfl rfl (by rw [Jc, List.length_map]; omega) rfl fun ks35 A35 _ _ K hA35 M => ?_
   replace M := Mem.cast (M := ((c34, 0, [.str y17]) :: (c10, 0, [.str o22, .str s22, .int .i64 z22, .int .i64 a22, kk22]) :: (c7, 0, [ka, kb]) :: (c6, 0, [.nils, .nils]) :: (c4, 0, [.str o, .str s, .int .i64 z, .int .i64 a, kk]) :: (c3, 0, [kn, kt]) :: (A13 ++ [])) ++ (A35 ++ (B ++ []))) (M' := ((c34, 0, [.str y17]) :: (c10, 0, [.str o22, .str s22, .int .i64 z22, .int .i64 a22, kk22]) :: (c7, 0, [ka, kb]) :: (c6, 0, [.nils, .nils]) :: (c4, 0, [.str o, .str s, .int .i64 z, .int .i64 a, kk]) :: (c3, 0, [kn, kt]) :: (A13 ++ (A35 ++ (B ++ []))))) M (by first | (simp only [List.append_assoc, List.cons_append, List.nil_append, List.append_nil, List.set_cons_zero, List.set_cons_succ]; done) | (simp only [List.append_assoc, List.cons_append, List.nil_append, List.append_nil, List.set_cons_zero, List.set_cons_succ]; rfl))
   have Mp := Mq
   have Mq := M
   refine d1 rfl K (Qe fo_free_put_1 rfl) rfl rfl fun _ K => ?_
   refine wd_load1 rfl K rfl (M.load (k := 2) rfl (Qk Qu rfl)) (Mp.load (k := 1) rfl (Qk Qu rfl)) (eqV_one (eqOk_len hB.len)) rfl (by decide) fun _ K => ?_
   refine wd_load1 rfl K rfl (M.load (k := 1) rfl (Ql Qi rfl)) (Mp.load (k := 0) rfl (Ql Qi rfl)) (eqV_agg (by simp [eqOk_str, eqOk_int, eqOk_bool, eqOk_len hc22])) rfl (by decide) fun _ K => ?_
   refine wd_bs rfl K M J4 Jd rfl rfl (Qf rfl (Qf rfl (Qf rfl (Qf rfl (Qf (slLen_cell hc22) Q7))))) rfl rfl fun c39 _ _ K M => ?_
   refine wd_acc1 (k2 := 0) (L := ((c39, 0, [.str o22, .str s22, .int .i64 z22, .int .i64 a22, kk22]) :: (c34, 0, [.str y17]) :: (c10, 0, [.str o22, .str s22, .int .i64 z22, .int .i64 a22, kk22]) :: (c7, 0, [ka, kb]) :: (c6, 0, [.nils, .nils]) :: (c4, 0, [.str o, .str s, .int .i64 z, .int .i64 a, kk]) :: (c3, 0, [kn, kt]) :: (A13 ++ (A35 ++ [])))) (A := B) (B := []) rfl K (Mem.cast (M := ((c39, 0, [.str o22, .str s22, .int .i64 z22, .int .i64 a22, kk22]) :: (c34, 0, [.str y17]) :: (c10, 0, [.str o22, .str s22, .int .i64 z22, .int .i64 a22, kk22]) :: (c7, 0, [ka, kb]) :: (c6, 0, [.nils, .nils]) :: (c4, 0, [.str o, .str s, .int .i64 z, .int .i64 a, kk]) :: (c3, 0, [kn, kt]) :: (A13 ++ (A35 ++ (B ++ []))))) (M' := ((c39, 0, [.str o22, .str s22, .int .i64 z22, .int .i64 a22, kk22]) :: (c34, 0, [.str y17]) :: (c10, 0, [.str o22, .str s22, .int .i64 z22, .int .i64 a22, kk22]) :: (c7, 0, [ka, kb]) :: (c6, 0, [.nils, .nils]) :: (c4, 0, [.str o, .str s, .int .i64 z, .int .i64 a, kk]) :: (c3, 0, [kn, kt]) :: (A13 ++ (A35 ++ []))) ++ (B ++ [])) M (by first | (simp only [List.append_assoc, List.cons_append, List.nil_append, List.append_nil, List.set_cons_zero, List.set_cons_succ]; done) | (simp only [List.append_assoc, List.cons_append, List.nil_append, List.append_nil, List.set_cons_zero, List.set_cons_succ]; rfl))) hB J4 rfl rfl rfl rfl (by omega) rfl fun ks40 A40 _ _ K hA40 M => ?_
   replace M := Mem.cast (M := ((c39, 0, [.str o22, .str s22, .int .i64 z22, .int .i64 a22, kk22]) :: (c34, 0, [.str y17]) :: (c10, 0, [.str o22, .str s22, .int .i64 z22, .int .i64 a22, kk22]) :: (c7, 0, [ka, kb]) :: (c6, 0, [.nils, .nils]) :: (c4, 0, [.str o, .str s, .int .i64 z, .int .i64 a, kk]) :: (c3, 0, [kn, kt]) :: (A13 ++ (A35 ++ []))) ++ (A40 ++ [])) (M' := ((c39, 0, [.str o22, .str s22, .int .i64 z22, .int .i64 a22, kk22]) :: (c34, 0, [.str y17]) :: (c10, 0, [.str o22, .str s22, .int .i64 z22, .int .i64 a22, kk22]) :: (c7, 0, [ka, kb]) :: (c6, 0, [.nils, .nils]) :: (c4, 0, [.str o, .str s, .int .i64 z, .int .i64 a, kk]) :: (c3, 0, [kn, kt]) :: (A13 ++ (A35 ++ (A40 ++ []))))) M (by first | (simp only [List.append_assoc, List.cons_append, List.nil_append, List.append_nil, List.set_cons_zero, List.set_cons_succ]; done) | (simp only [List.append_assoc, List.cons_append, List.nil_append, List.append_nil, List.set_cons_zero, List.set_cons_succ]; rfl))
   have Mp := Mq
   have Mq := M
   refine d1 rfl K (Qe fo_free_put_0 rfl) rfl rfl fun _ K => ?_
   refine wd_store1 (k := 3) rfl K M rfl rfl rfl sz_S_string (hA35.cell) rfl fun _ M => ?_
   have Mp := Mq
   have Mq := M
   refine d1 rfl K (Qe fo_free_put_1 rfl) rfl rfl fun _ K => ?_
   refine wd_store1 (k := 3) rfl K M rfl rfl rfl sz_S_api_Node (hA40.cell) rfl fun _ M => ?_
   have Mp := Mq
   have Mq := M
   refine wd_nil ?_
   show W _ _ _ _ _ _ _
   refine Qa <| o1 K (Jm rfl rfl (by omega) (by omega)) rfl fun _ K => o1 K (Qc rfl) rfl fun _ K => Qd ?_
   obtain ⟨l22, hL22, hG22⟩ : ∃ l, lookT ns ts y17 = some (.mk o22 s22 z22 a22 l) ∧ RdG R (.mk o22 s22 z22 a22 l) [.str o22, .str s22, .int .i64 z22, .int .i64 a22, kk22] := by
    rcases hT22 with ⟨_, l, h1, h2⟩ | ⟨h, _⟩
    ·exact ⟨l, h1, h2⟩
    ·exfalso; simp_all
   exact ⟨_, (by omega), i + 1, pl ++ [(y17, (Nd.mk o22 s22 z22 a22 l22))], ks35, ks40, A35, A40, (lsn ++ [[.str o22, .str s22, .int .i64 z22, .int .i64 a22, kk22]]), rfl, (.cons (K _ _ rfl) (.cons (K _ _ rfl) (.cons (K _ _ rfl) (.cons (K _ _ rfl) (.cons (K _ _ rfl) (.cons (K _ _ rfl) (.cons (K _ _ rfl) .nil))))))), M.less (.cons _ (.cons _ (.cons _ (.refl _)))), (by first | exact hA | (rw [List.map_append, txC_app]; exact hA35)), (by first | exact hB | exact hA40), (by omega), (by first | exact hlen | (simp only [List.length_append, hlen, List.length_cons, List.length_nil]; done)), (by first | exact hmap | exact hmap.snocS hlen hG22), (by first | (rw [hinv, only_step hi17, hno]; rfl) | (rw [hinv, only_step hi17, if_neg (by simp_all), hL22, List.append_assoc]; done)), (by first | omega | (rw [List.length_append]; simp; omega))⟩
  have hb30 := h30
  replace h30 : (y17 = but) := by simpa using h30
  refine Q3 ?_
  show W _ _ _ _ _ _ _
  refine Qa <| o1 K (Jm rfl rfl (by omega) (by omega)) rfl fun _ K => o1 K (Qc rfl) rfl fun _ K => Qd ?_
  have hno : (if y17 = but then [] else match lookT ns ts y17 with | some t => [(y17, t)] | none => []) = ([] : List (List Nat × Nd)) := by
   rcases hT22 with ⟨h, l, h1, h2⟩ | ⟨h, h1⟩
   ·rw [if_pos (by simp_all)]
   ·rw [h1]; split <;> rfl
  exact ⟨_, (by omega), i + 1, pl, ka, kb, A, B, lsn, rfl, (.cons (K _ _ rfl) (.cons (K _ _ rfl) (.cons (K _ _ rfl) (.cons (K _ _ rfl) (.cons (K _ _ rfl) (.cons (K _ _ rfl) (.cons (K _ _ rfl) .nil))))))), M.less (.cons _ (.refl _)), (by first | exact hA | (rw [List.map_append, txC_app]; exact hA35)), (by first | exact hB | exact hA40), (by omega), (by first | exact hlen | (simp only [List.length_append, hlen, List.length_cons, List.length_nil]; done)), (by first | exact hmap | exact hmap.snocS hlen hG22), (by first | (rw [hinv, only_step hi17, hno]; rfl) | (rw [hinv, only_step hi17, if_neg (by simp_all), hL22, List.append_assoc]; done)), (by first | omega | (rw [List.length_append]; simp; omega))⟩
 have hb16 := h16
 replace h16 := of_decide_eq_false h16
 refine Uk ?_
 show W _ _ _ _ _ _ _
 refine Qh <| Qa <| o1 K (Qg rfl (M.load (k := 0) rfl (Ql Ug rfl))) rfl fun _ K => ?_
 refine Qz (k := 1) K M rfl rfl rfl sz_free_put rfl (Qf hA.cell (Qf hB.cell Q7)) rfl fun _ M => ?_
 refine Qd ?_
 show W _ _ _ _ _ _ _
 refine Qs ?_
 refine ⟨.inr rfl, _, (Qm (Js K rfl (M.load (k := 1) rfl (Ql Ug rfl)))), ?_⟩
 have hpl : onlyN ns ts but (freeN (.mk o s z a l)) = pl := by rw [hinv, Jl (by omega)]; exact List.append_nil _
 rw [hpl]
 exact ⟨⟨ka, kb, A, B, lsn, rfl, hA, hB, hlen, hmap, M.seg (.cons _ (.cons _ (.cons _ (.cons _ (List.Sublist.trans (List.Sublist.trans (List.sublist_append_left (A ++ B) []) (by rw [List.append_assoc]; exact .refl _)) (List.sublist_append_right _ _))))))⟩, M.qt⟩
end Go.Proofs.YtmjnbdkjekdkgaaDoor
