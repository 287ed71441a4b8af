/-
  Pools: the reference's answers.
-/
import Derived.Test.YtjjadifjcodjpaaDoorPlw
namespace Go.Proofs.YtjjadifjcodjpaaDoor
open Go Go.RowKit
set_option linter.unusedVariables false
set_option linter.unusedSimpArgs false
set_option linter.unnecessarySimpa false
set_option maxRecDepth 100000
set_option maxHeartbeats 1000000

theorem RefAt.grow {st st4 : St} {F : Nat → Prop} {cp : Nat} {ks ks' v : AV} {A A' : Rows1} {vs : List AV} {L : List (List Int)} {s : List Int}
    (hFn : ∀ c, F c → c < st.n) (hFp : F cp) (hS : SetsAt st.h.get F cp A ks vs L)
    (hx : ∀ c, c < st.n → c ≠ cp → (∀ m l, (c, m, l) ∉ A) → st4.h.get c = st.h.get c) (hrow4 : Row1 st4.h.get cp 0 [ks'])
    (hA4 : AccX A' ks' (vs ++ [v])) (hAr : ∀ c m l, (c, m, l) ∈ A' → Row1 st4.h.get c m l) (hAn : ∀ c m l, (c, m, l) ∈ A' → (∃ m l, (c, m, l) ∈ A) ∨ st.n ≤ c) (hv : RdR st4.h.get [] 1 (zC s) v) (hvz : In64 s) (hvn : v = .nils ∨ ∃ c m o n, v = .sl c m o n 1)
    (hvc : ∀ c m o n y, v = .sl c m o n y → st.n ≤ c ∧ c < st4.n ∧ ∀ m' l', (c, m', l') ∉ A') (hf4 : Fresh st4) (hle : st.n ≤ st4.n) : RefAt st4.h.get (fun c => F c ∨ (st.n ≤ c ∧ c < st4.n)) cp (L ++ [s]) ∧ ChgF F st st4 := by
  have hcpn := hFn cp hFp
  refine ⟨⟨ks', A', vs ++ [v], hrow4, .inl hFp, ?_⟩, hf4, hle, fun c hc hF => ?_⟩
  · refine hS.snoc hA4 (fun c m l hm => ?_) (fun c h => .inl h) (fun c h1 h2 h3 ro ms h4 => ?_) hv hvz hvn (fun c m o n y e => ?_)
    · have hr := hAr c m l hm
      rcases hAn c m l hm with ⟨m2, l2, h⟩ | h
      · obtain ⟨_, k2, k3⟩ := hS.row c m2 l2 h
        exact ⟨hr, .inl k2, k3, .inl ⟨m2, l2, h⟩⟩
      · exact ⟨hr, .inr ⟨h, hr.lt hf4⟩, by omega, .inr fun hF => by have := hFn c hF; omega⟩
    · exact hx c (hFn c h1) h2 h3
    · obtain ⟨k1, k2, k3⟩ := hvc c m o n y e
      exact ⟨.inr ⟨k1, k2⟩, by omega, k3⟩
  · exact hx c hc (fun e => hF (e ▸ hFp)) fun m l hm => hF (hS.row c m l hm).2.1
theorem RefAt.more {h : Hp} {F F' : Nat → Prop} {cp : Nat} {L : List (List Int)} (H : RefAt h F cp L) (e : ∀ c, F c → F' c) : RefAt h F' cp L := by
  obtain ⟨ks, A, vs, h1, h2, h3⟩ := H
  exact ⟨ks, A, vs, h1, e _ h2, h3.more e⟩
theorem numF_at {L : List (List Int)} {s : List Int} (h : ∀ j, j < L.length → L[j]? ≠ some s) : numF 0 L s = none := by
  cases hq : numF 0 L s with
  | none => rfl
  | some i =>
    have h2 := (numF_some hq).2
    rw [Nat.sub_zero] at h2
    exact absurd h2 (h i (List.getElem?_eq_some_iff.1 h2).1)

theorem rGet_ev {st : St} (hf : Fresh st) {F : Nat → Prop} {cp : Nat} {L : List (List Int)} (hP : RefAt st.h.get F cp L) (hL : L.length ≤ 100000) (id : Int) : ∃ v st', Ev Tryd.prog envP 16 [.ptr cp 0 0, .int .i64 id] st v st' ∧ ∃ ks, v = ks ∧ RdR st'.h.get [] 1 (zC (getZ L id)) ks ∧ Qt st st' := by
 obtain ⟨ks, A, vs, hrow, hFp, hS⟩ := hP
 refine ev_fn rfl Tryd.func16 rfl Tryd.ntmps16 rfl (by decide) (by simp) fun T hT => ?_
 have K : KnT [(0, _), (1, _)] T := (.cons (hT 0) (.cons (hT 1) .nil))
 have M := Mem.start hf
 refine w_seq ?_
 refine w_region ?_
 refine o1 K (os_assign rfl) rfl fun _ K => ?_
 refine wr_nil ?_
 show W _ _ _ _ _ _ _
 refine w_seq ?_
 refine w_seq ?_
 refine w_region ?_
 refine o1 K (os_move rfl) rfl fun _ K => ?_
 refine o1 K (os_lss rfl rfl) rfl fun _ K => ?_
 refine oB K (os_move rfl) rfl fun b7 _ e7 K => ?_
 cases b7
 · replace e7 := of_decide_eq_false e7
   refine og K rfl rfl (os_move rfl) rfl fun _ K => ?_
   refine og K rfl rfl (os_move rfl) rfl fun _ K => ?_
   refine og K rfl rfl (os_nil rfl rfl) rfl fun _ K => ?_
   refine og K rfl rfl (os_fieldAddr fo_sibylref15_Pool_0 rfl) rfl fun _ K => ?_
   refine og K rfl rfl (os_load rfl (ld_row (M.rowX (by simp) hrow.rowV) (part_one tk_S_S_int rfl))) rfl fun _ K => ?_
   refine og K rfl rfl (os_lenL un_S_S_int rfl rfl hS.len) rfl fun _ K => ?_
   refine og K rfl rfl (os_geq rfl rfl) rfl fun _ K => ?_
   refine o1 K (os_pick rfl rfl rfl) rfl fun _ K => ?_
   refine wr_nil ?_
   show W _ _ _ _ _ _ _
   refine w_cond (K.opd rfl) (fun h15 => ?_) (fun h15 => ?_)
   · have hb15 := h15
     replace h15 := of_decide_eq_true h15
     refine w_seq ?_
     refine w_region ?_
     refine o1 K (os_assign rfl) rfl fun _ K => ?_
     refine wr_nil ?_
     show W _ _ _ _ _ _ _
     refine w_ret ?_
     refine ⟨.inr rfl, _, (res_one (rs_tmp K rfl)), ?_⟩
     refine ⟨.nils, rfl, ?_, M.qt⟩
     rw [getZ_off (by omega)]; exact .nil _ _ _
   have hb15 := h15
   replace h15 := of_decide_eq_false h15
   refine w_skip ?_
   show W _ _ _ _ _ _ _
   refine w_seq ?_
   refine w_region ?_
   refine o1 K (os_move rfl) rfl fun _ K => ?_
   refine o1 K (os_nil rfl rfl) rfl fun _ K => ?_
   refine o1 K (os_fieldAddr fo_sibylref15_Pool_0 rfl) rfl fun _ K => ?_
   refine o1 K (os_load rfl (ld_row (M.rowX (by simp) hrow.rowV) (part_one tk_S_S_int rfl))) rfl fun _ K => ?_
   refine o1 K (os_move rfl) rfl fun _ K => ?_
   obtain ⟨s21, hi21⟩ : ∃ x, L[id.toNat]? = some x := ⟨_, List.getElem?_eq_getElem (by omega)⟩
   obtain ⟨u21, hc21, hr21, hz21, hq21, hf21⟩ := hS.inn _ _ hi21
   obtain ⟨x21, m21, f21, q21, _, la21, lo21, lp21⟩ := (RdR.mem M hS.rd (by simp)).load (i := id.toNat) (cs := [u21]) (by rw [List.getElem?_map, hc21]; rfl)
   refine o1 K (os_indexAddr (j := id.toNat) el_S_S_int (congrArg some q21) (congrArg (fun z => some (AV.int .i64 z)) (by omega : _ = ((id.toNat : Nat) : Int))) (by rw [List.length_map, hS.ln]; omega)) rfl fun _ K => ?_
   refine o1 K (os_load rfl (lo21 _ 0 _ tk_S_int rfl)) rfl fun _ K => ?_
   refine o1 K (os_assign rfl) rfl fun _ K => ?_
   refine wr_nil ?_
   show W _ _ _ _ _ _ _
   refine w_ret ?_
   refine ⟨.inr rfl, _, (res_one (rs_tmp K rfl)), ?_⟩
   refine ⟨_, rfl, ?_, M.qt⟩
   rw [getZ_at (by omega) hi21]
   exact RdR.mem M hr21 (by simp)
 replace e7 := of_decide_eq_true e7
 refine gn K rfl rfl rfl rfl fun _ K => ?_
 refine gn K rfl rfl rfl rfl fun _ K => ?_
 refine gn K rfl rfl rfl rfl fun _ K => ?_
 refine gn K rfl rfl rfl rfl fun _ K => ?_
 refine gn K rfl rfl rfl rfl fun _ K => ?_
 refine gn K rfl rfl rfl rfl fun _ K => ?_
 refine gn K rfl rfl rfl rfl fun _ K => ?_
 refine o1 K (os_pick rfl rfl rfl) rfl fun _ K => ?_
 refine wr_nil ?_
 show W _ _ _ _ _ _ _
 refine w_cond (t := true) (K.opd rfl) (fun _ => ?_) (fun h => by cases h)
 refine w_seq ?_
 refine w_region ?_
 refine o1 K (os_assign rfl) rfl fun _ K => ?_
 refine wr_nil ?_
 show W _ _ _ _ _ _ _
 refine w_ret ?_
 refine ⟨.inr rfl, _, (res_one (rs_tmp K rfl)), ?_⟩
 refine ⟨.nils, rfl, ?_, M.qt⟩
 rw [getZ_off (by omega)]; exact .nil _ _ _

theorem rOf_ev {st : St} (hf : Fresh st) {F : Nat → Prop} {cp : Nat} {L : List (List Int)} (hP : RefAt st.h.get F cp L) (hFn : ∀ c, F c → c < st.n) (hnd : L.Nodup) (hL : L.length ≤ 100000) {l : List Int} {kl : AV} (hl : RdR st.h.get [] 1 (zC l) kl) (hz : In64 l) (hn : l.length ≤ 100000) : ∃ v st', Ev Tryd.prog envP 13 [.ptr cp 0 0, kl] st v st' ∧ v = .int .i64 ((ofN L l : Nat) : Int) ∧ RefAt st'.h.get (fun c => F c ∨ (st.n ≤ c ∧ c < st'.n)) cp (ofL L l) ∧ ChgF F st st' := by
 have hP0 := hP
 obtain ⟨ks, A, vs, hrow, hFp, hS⟩ := hP
 have hsz := sorted_in64 hz
 have hRw : ∀ c m x, (c, m, x) ∈ (cp, 0, [ks]) :: A → Row1 st.h.get c m x := by
   intro c m x h
   rcases List.mem_cons.1 h with h | h
   · injection h with h1 h; injection h with h2 h3; subst h1 h2 h3; exact hrow
   · exact (hS.row c m x h).1
 have hNd : (((cp, 0, [ks]) :: A).map Prod.fst).Nodup := by
   rw [List.map_cons]
   refine List.nodup_cons.2 ⟨fun h => ?_, hS.acc.nodup⟩
   obtain ⟨⟨c, m, x⟩, h1, h2⟩ := List.mem_map.1 h
   exact (hS.row c m x h1).2.2 h2
 refine ev_fn rfl Tryd.func13 rfl Tryd.ntmps13 rfl (by decide) (by simp) fun T hT => ?_
 have K : KnT [(0, _), (1, _)] T := (.cons (hT 0) (.cons (hT 1) .nil))
 have M := Mem.start hf
 refine w_seq ?_
 refine w_region ?_
 refine o1 K (os_assign rfl) rfl fun _ K => ?_
 refine wr_nil ?_
 show W _ _ _ _ _ _ _
 refine w_seq ?_
 refine w_region ?_
 refine o1 K (os_move rfl) rfl fun _ K => ?_
 obtain ⟨v8, st8, ev8, ks8, rfl, nr8, q8⟩ := rSorted_ev M.fresh (RdR.mem M hl (by simp)) (by omega)
 refine o1 K (os_call rfl ev8) rfl fun _ K => ?_
 obtain ⟨A8, hA8, M⟩ := M.callAcc q8 nr8
 refine o1 K (os_assign rfl) rfl fun _ K => ?_
 refine wr_nil ?_
 show W _ _ _ _ _ _ _
 refine w_seq ?_
 refine w_seq ?_
 refine w_region ?_
 refine o1 K (os_assign rfl) rfl fun _ K => ?_
 refine wr_nil ?_
 show W _ _ _ _ _ _ _
 refine w_block ?_
 refine w_loop (fun mm1 T st9 => ∃ (i : Nat), mm1 = L.length - i ∧ KnT [(0, .ptr cp 0 0), (5, v8), (6, .int .i64 (((i : Nat) : Int)))] T ∧ Mem st.h.get st.n [] st9 (A8 ++ []) ∧ i ≤ L.length ∧ (∀ j, j < i → L[j]? ≠ some (sortedZ l))) (fun mm1 T st9 hI => ?_) _ _ _ ⟨0, rfl, (.cons (K _ _ rfl) (.cons (K _ _ rfl) (.cons (K _ _ rfl) .nil))), M.less (.refl _), (Nat.zero_le _), (fun j hj => absurd hj (Nat.not_lt_zero j))⟩
 obtain ⟨i, rfl, K, M, hi, hx⟩ := hI
 refine w_seq ?_
 refine w_seq ?_
 refine w_region ?_
 refine o1 K (os_move rfl) rfl fun _ K => ?_
 refine o1 K (os_move rfl) rfl fun _ K => ?_
 refine o1 K (os_nil rfl rfl) rfl fun _ K => ?_
 refine o1 K (os_fieldAddr fo_sibylref15_Pool_0 rfl) rfl fun _ K => ?_
 refine o1 K (os_load rfl (ld_row (M.rowX (by simp) hrow.rowV) (part_one tk_S_S_int rfl))) rfl fun _ K => ?_
 refine o1 K (os_lenL un_S_S_int rfl rfl hS.len) rfl fun _ K => ?_
 refine o1 K (os_lss rfl rfl) rfl fun _ K => ?_
 refine wr_nil ?_
 show W _ _ _ _ _ _ _
 refine w_cond (K.opd rfl) (fun h15 => ?_) (fun h15 => ?_)
 · have hb15 := h15
   replace h15 := of_decide_eq_true h15
   refine w_skip ?_
   show W _ _ _ _ _ _ _
   refine w_seq ?_
   refine w_block ?_
   refine w_seq ?_
   refine w_region ?_
   refine o1 K (os_move rfl) rfl fun _ K => ?_
   refine o1 K (os_nil rfl rfl) rfl fun _ K => ?_
   refine o1 K (os_fieldAddr fo_sibylref15_Pool_0 rfl) rfl fun _ K => ?_
   refine o1 K (os_load rfl (ld_row (M.rowX (by simp) hrow.rowV) (part_one tk_S_S_int rfl))) rfl fun _ K => ?_
   refine o1 K (os_move rfl) rfl fun _ K => ?_
   obtain ⟨s23, hi23⟩ : ∃ x, L[i]? = some x := ⟨_, List.getElem?_eq_getElem (by omega)⟩
   obtain ⟨u23, hc23, hr23, hz23, hq23, hf23⟩ := hS.inn _ _ hi23
   obtain ⟨x23, m23, f23, q23, _, la23, lo23, lp23⟩ := (RdR.mem M hS.rd (by simp)).load (i := i) (cs := [u23]) (by rw [List.getElem?_map, hc23]; rfl)
   refine o1 K (os_indexAddr (j := i) el_S_S_int (congrArg some q23) rfl (by rw [List.length_map, hS.ln]; omega)) rfl fun _ K => ?_
   refine o1 K (os_load rfl (lo23 _ 0 _ tk_S_int rfl)) rfl fun _ K => ?_
   refine o1 K (os_move rfl) rfl fun _ K => ?_
   obtain ⟨v26, st26, ev26, rfl, q26⟩ := sameZ_ev M.fresh (RdR.mem M hr23 (by simp)) (Mem.accR (L := []) (A := A8) (B := []) M hA8)
   refine o1 K (os_call rfl ev26) rfl fun _ K => ?_
   replace M := M.quiet q26
   refine wr_nil ?_
   show W _ _ _ _ _ _ _
   refine w_cond (K.opd rfl) (fun h26 => ?_) (fun h26 => ?_)
   · have hb26 := h26
     replace h26 := of_decide_eq_true h26
     refine w_seq ?_
     refine w_region ?_
     refine o1 K (os_move rfl) rfl fun _ K => ?_
     refine o1 K (os_assign rfl) rfl fun _ K => ?_
     refine wr_nil ?_
     show W _ _ _ _ _ _ _
     refine w_ret ?_
     refine ⟨.inr rfl, _, (res_one (rs_tmp K rfl)), ?_⟩
     have hq : numF 0 L (sortedZ l) = some i := numF_first (hi23.trans (congrArg some h26)) hnd
     have e1 : ofN L l = i := by rw [ofN, hq]; rfl
     have e2 : ofL L l = L := by rw [ofL, hq]; rfl
     rw [e1, e2]
     exact ⟨rfl, (hP0.frame fun c hc => M.old c (hFn c hc) (by simp)).more fun c h => .inl h, M.qt.chgF F⟩
   have hb26 := h26
   replace h26 := of_decide_eq_false h26
   refine w_skip ?_
   show W _ _ _ _ _ _ _
   refine w_region ?_
   refine o1 K (os_move rfl) rfl fun _ K => ?_
   refine o1 K (os_add rfl rfl (by omega) (by omega)) rfl fun _ K => ?_
   refine o1 K (os_assign rfl) rfl fun _ K => ?_
   refine wr_nil ?_
   exact ⟨_, (by omega), i + 1, rfl, (.cons (K _ _ rfl) (.cons (K _ _ rfl) (.cons (K _ _ rfl) .nil))), M.less (.refl _), (by omega), (fun j hj => by rcases Nat.lt_succ_iff_lt_or_eq.1 hj with h | h; exact hx j h; (subst h; rw [hi23]; intro e; exact h26 (Option.some.inj e)))⟩
 have hb15 := h15
 replace h15 := of_decide_eq_false h15
 refine w_exit ?_
 show W _ _ _ _ _ _ _
 refine w_seq ?_
 have hnf : numF 0 L (sortedZ l) = none := numF_at fun j hj => hx j (by omega)
 have Q1 := M.qt
 have M := Mem.withOld hf M ((cp, 0, [ks]) :: A) hRw hNd
 replace M := Mem.cast (M' := ((cp, 0, [ks]) :: (A ++ (A8 ++ [])))) M (by first | rfl | simp)
 refine w_region ?_
 refine o1 K (os_move rfl) rfl fun _ K => ?_
 refine o1 K (os_move rfl) rfl fun _ K => ?_
 refine o1 K (os_nil rfl rfl) rfl fun _ K => ?_
 refine o1 K (os_fieldAddr fo_sibylref15_Pool_0 rfl) rfl fun _ K => ?_
 refine o1 K (os_load rfl (M.load (k := 0) rfl (part_one tk_S_S_int rfl))) rfl fun _ K => ?_
 refine o1 K (os_move rfl) rfl fun _ K => ?_
 refine wr_bs K M sl_S_S_int ze_S_int rfl ((fillA_one rfl hA8.cell rfl).trans rfl) (cl_cons hA8.cell cl_nil) rfl rfl fun c34 _ _ K M => ?_
 have hle35 := M.le
 refine wr_accX (k2 := 0) (L := [(c34, 0, [v8]), (cp, 0, [ks])]) (A := A) (B := (A8 ++ [])) K M hS.acc sl_S_S_int rfl rfl rfl (by rw [hS.ln]; omega) rfl fun ks35 A35 _ _ K hA35 hN35 M => ?_
 replace M := Mem.cast (M' := ((c34, 0, [v8]) :: (cp, 0, [ks]) :: (A35 ++ (A8 ++ [])))) M (by first | (simp only [List.append_assoc, List.cons_append, List.nil_append, List.append_nil, List.set_cons_zero, List.set_cons_succ]; done) | (simp only [List.append_assoc, List.cons_append, List.nil_append, List.append_nil, List.set_cons_zero, List.set_cons_succ]; rfl))
 refine o1 K (os_nil rfl rfl) rfl fun _ K => ?_
 refine o1 K (os_fieldAddr fo_sibylref15_Pool_0 rfl) rfl fun _ K => ?_
 refine wr_store1 (k := 1) K M rfl rfl rfl sz_S_S_int (hA35.cell) rfl fun _ M => ?_
 refine wr_nil ?_
 show W _ _ _ _ _ _ _
 refine w_seq ?_
 refine w_region ?_
 refine o1 K (os_move rfl) rfl fun _ K => ?_
 refine o1 K (os_nil rfl rfl) rfl fun _ K => ?_
 refine o1 K (os_fieldAddr fo_sibylref15_Pool_0 rfl) rfl fun _ K => ?_
 refine o1 K (os_load rfl (M.load (k := 1) rfl (part_one tk_S_S_int rfl))) rfl fun _ K => ?_
 refine o1 K (os_lenL un_S_S_int rfl rfl (show _ = some (L.length + 1) from hA35.len.trans (congrArg some (by rw [List.length_append, hS.ln]; rfl)))) rfl fun _ K => ?_
 refine o1 K (os_sub rfl rfl (by omega) (by omega)) rfl fun _ K => ?_
 refine o1 K (os_assign rfl) rfl fun _ K => ?_
 refine wr_nil ?_
 show W _ _ _ _ _ _ _
 refine w_ret ?_
 refine ⟨.inr rfl, _, (res_one (rs_tmp K rfl)), ?_⟩
 have e1 : ofN L l = L.length := by rw [ofN, hnf]; rfl
 have e2 : ofL L l = L ++ [sortedZ l] := by rw [ofL, hnf]; rfl
 rw [e1, e2]
 refine ⟨congrArg (AV.int .i64) (by omega), ?_⟩
 have hap := Mem.apartZ (Lr := [(c34, 0, [v8]), (cp, 0, [ks35])]) (A' := A35) (A2 := A8) (B := []) M hA8.zacc
 have hml := M.le
 have hq1 := Q1.le
 refine RefAt.grow hFn hFp hS (fun c h1 h2 h4 => ?_) (M.row1 (k := 1) rfl) hA35 (fun c m l h => M.row c m l (by simp [h])) (fun c m l h => ?_) (Mem.accR (L := ((c34, 0, [v8]) :: (cp, 0, [ks35]) :: (A35 ++ []))) (A := A8) (B := []) (Mem.cast (M := ((c34, 0, [v8]) :: (cp, 0, [ks35]) :: (A35 ++ (A8 ++ [])))) (M' := ((c34, 0, [v8]) :: (cp, 0, [ks35]) :: (A35 ++ [])) ++ (A8 ++ [])) M (by first | (simp only [List.append_assoc, List.cons_append, List.nil_append, List.append_nil, List.set_cons_zero, List.set_cons_succ]; done) | (simp only [List.append_assoc, List.cons_append, List.nil_append, List.append_nil, List.set_cons_zero, List.set_cons_succ]; rfl))) hA8) hsz hA8.nilSl hap M.fresh (by omega)
 · have hX : c ∉ List.map Prod.fst (((cp, 0, [ks]) :: A) ++ (A8 ++ [])) := by
     intro hc
     obtain ⟨⟨c', m', l'⟩, k1, k2⟩ := List.mem_map.1 hc
     simp only at k2
     subst k2
     rcases List.mem_append.1 k1 with k1 | k1
     · rcases List.mem_cons.1 k1 with k1 | k1
       · injection k1 with k1; exact h2 k1
       · exact h4 m' l' k1
     · have := hA8.zacc.ge (by simpa using k1); omega
   rw [M.old c (by omega) (by simpa using hX)]
   exact Q1.old c h1
 · rcases hN35 c m l h with h | h
   · exact .inl h
   · exact .inr (by omega)
end Go.Proofs.YtjjadifjcodjpaaDoor
