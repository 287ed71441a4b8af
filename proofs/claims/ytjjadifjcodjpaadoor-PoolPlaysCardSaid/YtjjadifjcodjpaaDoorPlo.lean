/-
  Rows of numbers: a copy, are two the same, sorted.
-/
import Derived.Test.YtjjadifjcodjpaaDoorPoolS
namespace Go.Proofs.YtjjadifjcodjpaaDoor
open Go Go.RowKit
set_option linter.unusedVariables false
set_option linter.unusedSimpArgs false
set_option linter.unnecessarySimpa false
set_option maxRecDepth 100000
set_option maxHeartbeats 1000000

theorem take_lt {out : List Int} {k : Nat} {x y : Int} (h : ∀ z ∈ out.take k, z < x) (hy : out[k]? = some y) (hlt : y < x) : ∀ z ∈ out.take (k + 1), z < x := by
  rw [List.take_add_one, hy]
  intro z hz
  rcases List.mem_append.1 hz with hz | hz
  · exact h z hz
  · have : z = y := by simpa using hz
    omega
theorem insZ_at {x : Int} : ∀ {out : List Int} {k : Nat}, k ≤ out.length → (∀ z ∈ out.take k, z < x) → (∀ z, out[k]? = some z → x < z) → insZ x out = out.take k ++ x :: out.drop k
  | [], k, hk, _, _ => by
    have : k = 0 := by simpa using hk
    subst this; rfl
  | y :: out, 0, _, _, h => by
    have := h y rfl
    rw [insZ, if_neg (by omega), if_neg (by omega)]; rfl
  | y :: out, k + 1, hk, h1, h2 => by
    have hy := h1 y (by simp)
    rw [insZ, if_pos hy, insZ_at (by simpa using hk) (fun z hz => h1 z (by simp [hz])) (fun z hz => h2 z (by simpa using hz))]
    simp
theorem insZ_same {x : Int} : ∀ {out : List Int} {k : Nat}, (∀ z ∈ out.take k, z < x) → out[k]? = some x → insZ x out = out
  | [], k, _, h => by simp at h
  | y :: out, 0, _, h => by
    injection h with h
    rw [insZ, if_neg (by omega), if_pos h]
  | y :: out, k + 1, h1, h2 => by
    have hy := h1 y (by simp)
    rw [insZ, if_pos hy, insZ_same (out := out) (k := k) (fun z hz => h1 z (by simp [hz])) h2]
theorem insZ_len (x : Int) : ∀ out : List Int, (insZ x out).length ≤ out.length + 1
  | [] => by simp [insZ]
  | y :: out => by
    have := insZ_len x out
    rw [insZ]
    split
    · simp; omega
    · split <;> simp
theorem foldZ_step {l : List Int} {i : Nat} {x : Int} (h : l[i]? = some x) (out : List Int) : (l.drop i).foldl (fun o x => insZ x o) out = (l.drop (i + 1)).foldl (fun o x => insZ x o) (insZ x out) := by
  obtain ⟨h1, h2⟩ := List.getElem?_eq_some_iff.1 h
  rw [List.drop_eq_getElem_cons h1, List.foldl_cons, h2]
theorem zC_cons (x : Int) (l : List Int) : zC (x :: l) = [AV.int .i64 x] :: zC l := rfl

theorem zClone_ev {st : St} (hf : Fresh st) {l : List Int} {kl : AV} (hl : RdR st.h.get [] 1 (zC l) kl) (hn : l.length ≤ 1000000) : ∃ v st', Ev Tryd.prog envP 17 [kl] st v st' ∧ ∃ ks, v = ks ∧ NewR st st' 1 ks (zC l) ∧ Qt st st' := by
 have hcl := zC_len l
 refine ev_fn rfl Tryd.func17 rfl Tryd.ntmps17 rfl (by decide) (by simp) fun T hT => ?_
 have K : KnT [(0, _)] T := (.cons (hT 0) .nil)
 have M := Mem.start hf
 refine w_seq ?_
 refine w_region ?_
 refine o1 K (os_assign rfl) rfl fun _ K => ?_
 refine wr_nil ?_
 show W _ _ _ _ _ _ _
 refine w_seq ?_
 refine w_seq ?_
 refine w_region ?_
 refine o1 K (os_move rfl) rfl fun _ K => ?_
 refine o1 K (os_eqNilA (hl.len.trans (congrArg some (zC_len _))) un_S_int rfl rfl) rfl fun _ K => ?_
 refine wr_nil ?_
 show W _ _ _ _ _ _ _
 refine w_cond (K.opd rfl) (fun h4 => ?_) (fun h4 => ?_)
 · have hb4 := h4
   refine w_seq ?_
   refine w_region ?_
   refine o1 K (os_assign rfl) rfl fun _ K => ?_
   refine wr_nil ?_
   show W _ _ _ _ _ _ _
   refine w_ret ?_
   refine ⟨.inr rfl, _, (res_one (rs_tmp K rfl)), ?_⟩
   have hbl : l = [] := by
     have h := hl.len
     rw [nilB_eq h4] at h
     injection h with h
     rw [zC_len] at h
     exact nil_of_len h.symm
   exact ⟨.nils, rfl, ⟨[], by rw [hbl]; exact .none, fun _ _ _ h => by cases h⟩, M.qt⟩
 have hb4 := h4
 refine w_skip ?_
 show W _ _ _ _ _ _ _
 refine w_seq ?_
 refine w_region ?_
 refine wr_bs K M sl_S_int ze_int rfl rfl rfl rfl rfl fun c5 _ _ K M => ?_
 refine o1 K (os_move rfl) rfl fun _ K => ?_
 replace M := Mem.cast (M' := ([(c5, 0, [])] ++ [])) (Mem.perm M (List.perm_append_comm (l₁ := [(c5, 0, [])]) (l₂ := []))) (by first | (simp only [List.append_assoc, List.cons_append, List.nil_append, List.append_nil, List.set_cons_zero, List.set_cons_succ]; done) | (simp only [List.append_assoc, List.cons_append, List.nil_append, List.append_nil, List.set_cons_zero, List.set_cons_succ]; rfl))
 have hA0c5 : Acc st.n 1 [(c5, 0, [])] (.sl c5 0 0 0 1) [] := Acc.own (n0 := st.n) (z := 1) (c := c5) (m := 0) (ls := []) ((M.own c5 0 [] (by simp)).resolve_right (by simp)) (by simp) (by simp)
 refine wr_accS (L := []) (A := [(c5, 0, [])]) (B := []) K M hA0c5 sl_S_int rfl rfl (RdR.mem M hl (by simp)) (zC_one _) (by simp only [List.length_nil]; omega) rfl fun ks7 A7 _ _ K hA7 M => ?_
 refine o1 K (os_assign rfl) rfl fun _ K => ?_
 refine wr_nil ?_
 show W _ _ _ _ _ _ _
 refine w_ret ?_
 refine ⟨.inr rfl, _, (res_one (rs_tmp K rfl)), ?_⟩
 refine ⟨_, rfl, ?_, M.qt⟩
 have h := Mem.newR (L := []) (A := A7) (B := []) M hA7
 simpa using h

theorem sameZ_ev {st : St} (hf : Fresh st) {a b : List Int} {ka kb : AV} (hA : RdR st.h.get [] 1 (zC a) ka) (hB : RdR st.h.get [] 1 (zC b) kb) : ∃ v st', Ev Tryd.prog envP 10 [ka, kb] st v st' ∧ v = .bool (decide (a = b)) ∧ Qt st st' := by
 have hbna : (a.length : Int) ≤ 9223372036854775807 := by have := hA.bnd; rw [zC_len] at this; exact this
 have hbnb : (b.length : Int) ≤ 9223372036854775807 := by have := hB.bnd; rw [zC_len] at this; exact this
 refine ev_fn rfl Tryd.func10 rfl Tryd.ntmps10 rfl (by decide) (by simp) fun T hT => ?_
 have K : KnT [(0, _), (1, _)] T := (.cons (hT 0) (.cons (hT 1) .nil))
 have M := Mem.start hf
 refine w_seq ?_
 refine w_region ?_
 refine o1 K (os_assign rfl) rfl fun _ K => ?_
 refine wr_nil ?_
 show W _ _ _ _ _ _ _
 refine w_seq ?_
 refine w_seq ?_
 refine w_region ?_
 refine o1 K (os_move rfl) rfl fun _ K => ?_
 refine o1 K (os_lenL un_S_int rfl rfl (hA.len.trans (congrArg some (zC_len _)))) rfl fun _ K => ?_
 refine o1 K (os_move rfl) rfl fun _ K => ?_
 refine o1 K (os_lenL un_S_int rfl rfl (hB.len.trans (congrArg some (zC_len _)))) rfl fun _ K => ?_
 refine o1 K (os_neI rfl rfl) rfl fun _ K => ?_
 refine wr_nil ?_
 show W _ _ _ _ _ _ _
 refine w_cond (K.opd rfl) (fun h10 => ?_) (fun h10 => ?_)
 · have hb10 := h10
   replace h10 : ¬ (((a.length : Nat) : Int) = ((b.length : Nat) : Int)) := by simpa using h10
   refine w_seq ?_
   refine w_region ?_
   refine o1 K (os_assign rfl) rfl fun _ K => ?_
   refine wr_nil ?_
   show W _ _ _ _ _ _ _
   refine w_ret ?_
   refine ⟨.inr rfl, _, (res_one (rs_tmp K rfl)), ?_⟩
   refine ⟨congrArg AV.bool (Eq.symm (decide_eq_false fun e => h10 (by rw [e]))), M.qt⟩
 have hb10 := h10
 replace h10 : (((a.length : Nat) : Int) = ((b.length : Nat) : Int)) := by simpa using h10
 refine w_skip ?_
 show W _ _ _ _ _ _ _
 refine w_seq ?_
 refine w_seq ?_
 refine w_region ?_
 refine o1 K (os_assign rfl) rfl fun _ K => ?_
 refine wr_nil ?_
 show W _ _ _ _ _ _ _
 refine w_block ?_
 refine w_loop (fun mm1 T st9 => ∃ (i : Nat), mm1 = a.length - i ∧ KnT [(0, ka), (1, kb), (5, .int .i64 (((i : Nat) : Int)))] T ∧ Mem st.h.get st.n [] st9 [] ∧ i ≤ a.length ∧ (∀ j, j < i → a[j]? = b[j]?)) (fun mm1 T st9 hI => ?_) _ _ _ ⟨0, rfl, (.cons (K _ _ rfl) (.cons (K _ _ rfl) (.cons (K _ _ rfl) .nil))), M.less (.refl _), (Nat.zero_le _), (fun j hj => absurd hj (Nat.not_lt_zero j))⟩
 obtain ⟨i, rfl, K, M, hi, hx⟩ := hI
 refine w_seq ?_
 refine w_seq ?_
 refine w_region ?_
 refine o1 K (os_move rfl) rfl fun _ K => ?_
 refine o1 K (os_move rfl) rfl fun _ K => ?_
 refine o1 K (os_lenL un_S_int rfl rfl (hA.len.trans (congrArg some (zC_len _)))) rfl fun _ K => ?_
 refine o1 K (os_lss rfl rfl) rfl fun _ K => ?_
 refine wr_nil ?_
 show W _ _ _ _ _ _ _
 refine w_cond (K.opd rfl) (fun h14 => ?_) (fun h14 => ?_)
 · have hb14 := h14
   replace h14 := of_decide_eq_true h14
   refine w_skip ?_
   show W _ _ _ _ _ _ _
   refine w_seq ?_
   refine w_block ?_
   refine w_seq ?_
   refine w_drawI (l := [(0, 0), (1, 0), (2, 0), (3, 0), (4, 0), (5, 0), (6, 0), (7, 0), (8, 0)]) (by kernel_rfl) ?_
   refine d1 rfl K (os_move rfl) rfl rfl fun _ K => ?_
   refine d1 rfl K (os_move rfl) rfl rfl fun _ K => ?_
   obtain ⟨y19, hi19⟩ : ∃ x, a[i]? = some x := ⟨_, List.getElem?_eq_getElem (by omega)⟩
   obtain ⟨x19, m19, f19, q19, _, la19, lo19, lp19⟩ := (RdR.mem M hA (by simp)).load (i := i) (cs := _) (zC_get hi19)
   refine d1 rfl K (os_indexAddr (j := i) el_S_int (congrArg some q19) rfl (by rw [zC_len]; omega)) rfl rfl fun _ K => ?_
   refine d1 rfl K (os_load rfl (lo19 _ 0 _ tk_int rfl)) rfl rfl fun _ K => ?_
   refine d1 rfl K (os_move rfl) rfl rfl fun _ K => ?_
   refine d1 rfl K (os_move rfl) rfl rfl fun _ K => ?_
   obtain ⟨y23, hi23⟩ : ∃ x, b[i]? = some x := ⟨_, List.getElem?_eq_getElem (by omega)⟩
   obtain ⟨x23, m23, f23, q23, _, la23, lo23, lp23⟩ := (RdR.mem M hB (by simp)).load (i := i) (cs := _) (zC_get hi23)
   refine d1 rfl K (os_indexAddr (j := i) el_S_int (congrArg some q23) rfl (by rw [zC_len]; omega)) rfl rfl fun _ K => ?_
   refine d1 rfl K (os_load rfl (lo23 _ 0 _ tk_int rfl)) rfl rfl fun _ K => ?_
   refine d1 rfl K (os_neI rfl rfl) rfl rfl fun _ K => ?_
   refine wd_nil ?_
   show W _ _ _ _ _ _ _
   refine w_cond (K.opd rfl) (fun h25 => ?_) (fun h25 => ?_)
   · have hb25 := h25
     replace h25 : ¬ (y19 = y23) := by simpa using h25
     refine w_seq ?_
     refine w_region ?_
     refine o1 K (os_assign rfl) rfl fun _ K => ?_
     refine wr_nil ?_
     show W _ _ _ _ _ _ _
     refine w_ret ?_
     refine ⟨.inr rfl, _, (res_one (rs_tmp K rfl)), ?_⟩
     refine ⟨congrArg AV.bool (Eq.symm (decide_eq_false fun e => h25 (by rw [e, hi23] at hi19; injection hi19 with e1; exact e1.symm))), M.qt⟩
   have hb25 := h25
   replace h25 : (y19 = y23) := by simpa using h25
   refine w_skip ?_
   show W _ _ _ _ _ _ _
   refine w_region ?_
   refine o1 K (os_move rfl) rfl fun _ K => ?_
   refine o1 K (os_add rfl rfl (by omega) (by omega)) rfl fun _ K => ?_
   refine o1 K (os_assign rfl) rfl fun _ K => ?_
   refine wr_nil ?_
   exact ⟨_, (by omega), i + 1, rfl, (.cons (K _ _ rfl) (.cons (K _ _ rfl) (.cons (K _ _ rfl) .nil))), M.less (.refl _), (by omega), (fun j hj => by rcases Nat.lt_succ_iff_lt_or_eq.1 hj with h | h; exact hx j h; (subst h; rw [hi19, hi23, h25]))⟩
 have hb14 := h14
 replace h14 := of_decide_eq_false h14
 refine w_exit ?_
 show W _ _ _ _ _ _ _
 refine w_seq ?_
 refine w_region ?_
 refine o1 K (os_assign rfl) rfl fun _ K => ?_
 refine wr_nil ?_
 show W _ _ _ _ _ _ _
 refine w_ret ?_
 refine ⟨.inr rfl, _, (res_one (rs_tmp K rfl)), ?_⟩
 refine ⟨congrArg AV.bool (Eq.symm (decide_eq_true (List.ext_getElem? fun j => ?_))), M.qt⟩
 by_cases hj : j < a.length
 · exact hx j (by omega)
 · rw [List.getElem?_eq_none (by omega), List.getElem?_eq_none (by omega)]

theorem rSorted_ev {st : St} (hf : Fresh st) {l : List Int} {kl : AV} (hl : RdR st.h.get [] 1 (zC l) kl) (hn : l.length ≤ 100000) : ∃ v st', Ev Tryd.prog envP 11 [kl] st v st' ∧ ∃ ks, v = ks ∧ NewR st st' 1 ks (zC (sortedZ l)) ∧ Qt st st' := by
 refine ev_fn rfl Tryd.func11 rfl Tryd.ntmps11 rfl (by decide) (by simp) fun T hT => ?_
 have K : KnT [(0, _)] T := (.cons (hT 0) .nil)
 have M := Mem.start hf
 refine w_seq ?_
 refine w_region ?_
 refine o1 K (os_assign rfl) rfl fun _ K => ?_
 refine wr_nil ?_
 show W _ _ _ _ _ _ _
 refine w_seq ?_
 refine w_region ?_
 refine o1 K (os_assign rfl) rfl fun _ K => ?_
 refine wr_nil ?_
 show W _ _ _ _ _ _ _
 refine w_seq ?_
 refine w_seq ?_
 refine w_region ?_
 refine o1 K (os_assign rfl) rfl fun _ K => ?_
 refine wr_nil ?_
 show W _ _ _ _ _ _ _
 refine w_block ?_
 refine w_loop (fun mm1 T st9 => ∃ (i : Nat) (out : List Int) (ks : AV) (A : Rows1), mm1 = l.length - i ∧ KnT [(0, kl), (2, .nils), (3, ks), (4, .int .i64 (((i : Nat) : Int)))] T ∧ Mem st.h.get st.n [] st9 (A ++ []) ∧ Acc st.n 1 A ks (zC out) ∧ i ≤ l.length ∧ sortedZ l = (l.drop i).foldl (fun o x => insZ x o) out ∧ out.length ≤ i) (fun mm1 T st9 hI => ?_) _ _ _ ⟨0, [], .nils, [], rfl, (.cons (K _ _ rfl) (.cons (K _ _ rfl) (.cons (K _ _ rfl) (.cons (K _ _ rfl) .nil)))), M.less (.refl _), .none, (Nat.zero_le _), (by rw [List.drop_zero]; rfl), (Nat.le_refl _)⟩
 obtain ⟨i, out, ks, A, rfl, K, M, hA, hi, hinv, hol⟩ := hI
 refine w_seq ?_
 refine w_seq ?_
 refine w_region ?_
 refine o1 K (os_move rfl) rfl fun _ K => ?_
 refine o1 K (os_move rfl) rfl fun _ K => ?_
 refine o1 K (os_lenL un_S_int rfl rfl (hl.len.trans (congrArg some (zC_len _)))) rfl fun _ K => ?_
 refine o1 K (os_lss rfl rfl) rfl fun _ K => ?_
 refine wr_nil ?_
 show W _ _ _ _ _ _ _
 refine w_cond (K.opd rfl) (fun h9 => ?_) (fun h9 => ?_)
 · have hb9 := h9
   replace h9 := of_decide_eq_true h9
   refine w_skip ?_
   show W _ _ _ _ _ _ _
   refine w_seq ?_
   refine w_block ?_
   refine w_seq ?_
   refine w_region ?_
   refine o1 K (os_assign rfl) rfl fun _ K => ?_
   refine wr_nil ?_
   show W _ _ _ _ _ _ _
   obtain ⟨x, hxi⟩ : ∃ x, l[i]? = some x := ⟨_, List.getElem?_eq_getElem (by omega)⟩
   refine w_cut (J := fun T st9 => ∃ (k : Nat), KnT [(0, kl), (2, .nils), (3, ks), (4, .int .i64 (((i : Nat) : Int))), (5, .int .i64 (((k : Nat) : Int)))] T ∧ Mem st.h.get st.n [] st9 (A ++ []) ∧ k ≤ out.length ∧ (∀ z ∈ out.take k, z < x) ∧ (∀ z, out[k]? = some z → ¬ z < x)) ?_ (fun T st9 hJ => ?_)
   · refine w_block ?_
     refine w_loop (fun mm2 T st9 => ∃ (k : Nat), mm2 = out.length - k ∧ KnT [(0, kl), (2, .nils), (3, ks), (4, .int .i64 (((i : Nat) : Int))), (5, .int .i64 (((k : Nat) : Int)))] T ∧ Mem st.h.get st.n [] st9 (A ++ []) ∧ k ≤ out.length ∧ (∀ z ∈ out.take k, z < x)) (fun mm2 T st9 hI => ?_) _ _ _ ⟨0, rfl, (.cons (K _ _ rfl) (.cons (K _ _ rfl) (.cons (K _ _ rfl) (.cons (K _ _ rfl) (.cons (K _ _ rfl) .nil))))), M.less (.refl _), (Nat.zero_le _), (by simp)⟩
     obtain ⟨k, rfl, K, M, hk, hkx⟩ := hI
     refine w_seq ?_
     refine w_seq ?_
     refine w_drawI (l := [(0, 0), (1, 0), (2, 0), (3, 0), (4, 0), (5, 0), (6, 0), (7, 0), (8, 0), (9, 0), (10, 0), (11, 0), (12, 0), (13, 0), (14, 0)]) (by kernel_rfl) ?_
     refine d1 rfl K (os_move rfl) rfl rfl fun _ K => ?_
     refine d1 rfl K (os_move rfl) rfl rfl fun _ K => ?_
     refine d1 rfl K (os_lenL un_S_int rfl rfl (hA.len.trans (congrArg some (zC_len _)))) rfl rfl fun _ K => ?_
     refine d1 rfl K (os_lss rfl rfl) rfl rfl fun _ K => ?_
     refine dB rfl K (os_move rfl) rfl rfl fun b16 _ e16 K => ?_
     cases b16
     · replace e16 := of_decide_eq_false e16
       refine dgn rfl K rfl rfl rfl rfl fun _ _ K => ?_
       refine dgn rfl K rfl rfl rfl rfl fun _ _ K => ?_
       refine dgn rfl K rfl rfl rfl rfl fun _ _ K => ?_
       refine dgn rfl K rfl rfl rfl rfl fun _ _ K => ?_
       refine dgn rfl K rfl rfl rfl rfl fun _ _ K => ?_
       refine dgn rfl K rfl rfl rfl rfl fun _ _ K => ?_
       refine dgn rfl K rfl rfl rfl rfl fun _ _ K => ?_
       refine dgn rfl K rfl rfl rfl rfl fun _ _ K => ?_
       refine dgn rfl K rfl rfl rfl rfl fun _ _ K => ?_
       refine d1 rfl K (os_pick rfl rfl rfl) rfl rfl fun _ K => ?_
       refine wd_nil ?_
       show W _ _ _ _ _ _ _
       refine w_cond (t := false) (K.opd rfl) (fun h => by cases h) (fun _ => ?_)
       refine w_exit ?_
       exact ⟨k, (.cons (K _ _ rfl) (.cons (K _ _ rfl) (.cons (K _ _ rfl) (.cons (K _ _ rfl) (.cons (K _ _ rfl) .nil))))), M.less (.refl _), hk, hkx, (fun z hz => by first | (rw [List.getElem?_eq_none (by omega)] at hz; cases hz) | (rw [hz] at hi19; injection hi19 with e1; have := Option.some.inj (hi23.symm.trans hxi); omega))⟩
     replace e16 := of_decide_eq_true e16
     refine dg rfl K rfl rfl (os_move rfl) rfl rfl fun _ K => ?_
     refine dg rfl K rfl rfl (os_move rfl) rfl rfl fun _ K => ?_
     obtain ⟨y19, hi19⟩ : ∃ x, out[k]? = some x := ⟨_, List.getElem?_eq_getElem (by omega)⟩
     obtain ⟨x19, m19, f19, q19, _, la19, lo19, lp19⟩ := (Mem.accR (L := []) (A := A) (B := []) M hA).load (i := k) (cs := _) (zC_get hi19)
     refine dg rfl K rfl rfl (os_indexAddr (j := k) el_S_int (congrArg some q19) rfl (by rw [zC_len]; omega)) rfl rfl fun _ K => ?_
     refine dg rfl K rfl rfl (os_load rfl (lo19 _ 0 _ tk_int rfl)) rfl rfl fun _ K => ?_
     refine dg rfl K rfl rfl (os_move rfl) rfl rfl fun _ K => ?_
     refine dg rfl K rfl rfl (os_move rfl) rfl rfl fun _ K => ?_
     obtain ⟨y23, hi23⟩ : ∃ x, l[i]? = some x := ⟨_, List.getElem?_eq_getElem (by omega)⟩
     obtain ⟨x23, m23, f23, q23, _, la23, lo23, lp23⟩ := (RdR.mem M hl (by simp)).load (i := i) (cs := _) (zC_get hi23)
     refine dg rfl K rfl rfl (os_indexAddr (j := i) el_S_int (congrArg some q23) rfl (by rw [zC_len]; omega)) rfl rfl fun _ K => ?_
     refine dg rfl K rfl rfl (os_load rfl (lo23 _ 0 _ tk_int rfl)) rfl rfl fun _ K => ?_
     refine dg rfl K rfl rfl (os_lss rfl rfl) rfl rfl fun _ K => ?_
     refine d1 rfl K (os_pick rfl rfl rfl) rfl rfl fun _ K => ?_
     refine wd_nil ?_
     show W _ _ _ _ _ _ _
     refine w_cond (K.opd rfl) (fun h26 => ?_) (fun h26 => ?_)
     · have hb26 := h26
       replace h26 := of_decide_eq_true h26
       refine w_skip ?_
       show W _ _ _ _ _ _ _
       refine w_block ?_
       refine w_region ?_
       refine o1 K (os_move rfl) rfl fun _ K => ?_
       refine o1 K (os_add rfl rfl (by omega) (by omega)) rfl fun _ K => ?_
       refine o1 K (os_assign rfl) rfl fun _ K => ?_
       refine wr_nil ?_
       exact ⟨_, (by omega), k + 1, rfl, (.cons (K _ _ rfl) (.cons (K _ _ rfl) (.cons (K _ _ rfl) (.cons (K _ _ rfl) (.cons (K _ _ rfl) .nil))))), M.less (.refl _), (by omega), (take_lt hkx hi19 (by have := Option.some.inj (hi23.symm.trans hxi); omega))⟩
     have hb26 := h26
     replace h26 := of_decide_eq_false h26
     refine w_exit ?_
     exact ⟨k, (.cons (K _ _ rfl) (.cons (K _ _ rfl) (.cons (K _ _ rfl) (.cons (K _ _ rfl) (.cons (K _ _ rfl) .nil))))), M.less (.refl _), hk, hkx, (fun z hz => by first | (rw [List.getElem?_eq_none (by omega)] at hz; cases hz) | (rw [hz] at hi19; injection hi19 with e1; have := Option.some.inj (hi23.symm.trans hxi); omega))⟩
   obtain ⟨k, K, M, hk, hkx, hnx⟩ := hJ
   refine w_seq ?_
   refine w_seq ?_
   refine w_drawI (l := [(0, 0), (1, 0), (2, 0), (3, 0), (4, 0), (5, 0), (6, 0), (7, 0), (8, 0), (9, 0), (10, 0), (11, 0), (12, 0), (13, 0), (14, 0)]) (by kernel_rfl) ?_
   refine d1 rfl K (os_move rfl) rfl rfl fun _ K => ?_
   refine d1 rfl K (os_move rfl) rfl rfl fun _ K => ?_
   refine d1 rfl K (os_lenL un_S_int rfl rfl (hA.len.trans (congrArg some (zC_len _)))) rfl rfl fun _ K => ?_
   refine d1 rfl K (os_lss rfl rfl) rfl rfl fun _ K => ?_
   refine dB rfl K (os_move rfl) rfl rfl fun b33 _ e33 K => ?_
   cases b33
   · replace e33 := of_decide_eq_false e33
     refine dgn rfl K rfl rfl rfl rfl fun _ _ K => ?_
     refine dgn rfl K rfl rfl rfl rfl fun _ _ K => ?_
     refine dgn rfl K rfl rfl rfl rfl fun _ _ K => ?_
     refine dgn rfl K rfl rfl rfl rfl fun _ _ K => ?_
     refine dgn rfl K rfl rfl rfl rfl fun _ _ K => ?_
     refine dgn rfl K rfl rfl rfl rfl fun _ _ K => ?_
     refine dgn rfl K rfl rfl rfl rfl fun _ _ K => ?_
     refine dgn rfl K rfl rfl rfl rfl fun _ _ K => ?_
     refine dgn rfl K rfl rfl rfl rfl fun _ _ K => ?_
     refine d1 rfl K (os_pick rfl rfl rfl) rfl rfl fun _ K => ?_
     refine wd_nil ?_
     show W _ _ _ _ _ _ _
     refine w_cond (t := false) (K.opd rfl) (fun h => by cases h) (fun _ => ?_)
     refine w_skip ?_
     show W _ _ _ _ _ _ _
     refine w_drawI (l := [(0, 0), (1, 0), (2, 0), (3, 0), (4, 0), (5, 0), (6, 0), (7, 0), (8, 1), (9, 0), (10, 0), (11, 0), (12, 0), (13, 0), (14, 0), (15, 0)]) (by kernel_rfl) ?_
     have Mq := M
     refine wd_bs rfl K M sl_S_int ze_int rfl rfl rfl rfl rfl fun c44 _ _ K M => ?_
     refine d1 rfl K (os_move rfl) rfl rfl fun _ K => ?_
     refine d1 rfl K (os_move rfl) rfl rfl fun _ K => ?_
     refine wd_sliceZ (l := out) (a := 0) (b := k) rfl K el_S_int (Mem.accR (L := [(c44, 0, [])]) (A := A) (B := []) M hA) hA.nilSl rfl rfl rfl (by omega) (by omega) rfl fun v47 _ K r47 hc47 => ?_
     replace M := Mem.cast (M' := (A ++ ([(c44, 0, [])] ++ []))) (Mem.perm M (List.perm_append_comm (l₁ := [(c44, 0, [])]) (l₂ := (A ++ [])))) (by first | (simp only [List.append_assoc, List.cons_append, List.nil_append, List.append_nil, List.set_cons_zero, List.set_cons_succ]; done) | (simp only [List.append_assoc, List.cons_append, List.nil_append, List.append_nil, List.set_cons_zero, List.set_cons_succ]; rfl))
     have hA0c44 : Acc st.n 1 [(c44, 0, [])] (.sl c44 0 0 0 1) [] := Acc.own (n0 := st.n) (z := 1) (c := c44) (m := 0) (ls := []) ((M.own c44 0 [] (by simp)).resolve_right (by simp)) (by simp) (by simp)
     refine wd_accS (L := ((A ++ []))) (A := [(c44, 0, [])]) (B := []) rfl K (Mem.cast (M := (A ++ ([(c44, 0, [])] ++ []))) (M' := ((A ++ [])) ++ ([(c44, 0, [])] ++ [])) M (by first | (simp only [List.append_assoc, List.cons_append, List.nil_append, List.append_nil, List.set_cons_zero, List.set_cons_succ]; done) | (simp only [List.append_assoc, List.cons_append, List.nil_append, List.append_nil, List.set_cons_zero, List.set_cons_succ]; rfl))) hA0c44 sl_S_int rfl rfl r47 (zC_one _) (by simp [zC_len]; omega) rfl fun ks48 A48 _ _ K hA48 M => ?_
     replace M := Mem.cast (M := ((A ++ [])) ++ (A48 ++ [])) (M' := (A ++ (A48 ++ []))) M (by first | (simp only [List.append_assoc, List.cons_append, List.nil_append, List.append_nil, List.set_cons_zero, List.set_cons_succ]; done) | (simp only [List.append_assoc, List.cons_append, List.nil_append, List.append_nil, List.set_cons_zero, List.set_cons_succ]; rfl))
     have Mp := Mq
     have Mq := M
     refine d1 rfl K (os_move rfl) rfl rfl fun _ K => ?_
     refine d1 rfl K (os_move rfl) rfl rfl fun _ K => ?_
     obtain ⟨y51, hi51⟩ : ∃ x, l[i]? = some x := ⟨_, List.getElem?_eq_getElem (by omega)⟩
     obtain ⟨x51, m51, f51, q51, _, la51, lo51, lp51, la'51, lo'51, lp'51⟩ := RdR.load2 (RdR.mem M hl (by simp)) (RdR.mem Mp hl (by simp)) (i := i) (cs := _) (zC_get hi51)
     refine d1 rfl K (os_indexAddr (j := i) el_S_int (congrArg some q51) rfl (by rw [zC_len]; omega)) rfl rfl fun _ K => ?_
     refine wd_load1 rfl K rfl (lo51 _ 0 _ tk_int rfl) (lo'51 _ 0 _ tk_int rfl) (eqV_one rfl) rfl (by decide) fun _ K => ?_
     refine wd_bs rfl K M sl_S_int ze_int rfl rfl rfl rfl rfl fun c53 _ _ K M => ?_
     refine wd_acc1 (k2 := 0) (L := ((c53, 0, [.int .i64 y51]) :: (A ++ []))) (A := A48) (B := []) rfl K (Mem.cast (M := ((c53, 0, [.int .i64 y51]) :: (A ++ (A48 ++ [])))) (M' := ((c53, 0, [.int .i64 y51]) :: (A ++ [])) ++ (A48 ++ [])) M (by first | (simp only [List.append_assoc, List.cons_append, List.nil_append, List.append_nil, List.set_cons_zero, List.set_cons_succ]; done) | (simp only [List.append_assoc, List.cons_append, List.nil_append, List.append_nil, List.set_cons_zero, List.set_cons_succ]; rfl))) hA48 sl_S_int rfl rfl rfl rfl (by simp [zC_len]; omega) rfl fun ks54 A54 _ _ K hA54 M => ?_
     replace M := Mem.cast (M := ((c53, 0, [.int .i64 y51]) :: (A ++ [])) ++ (A54 ++ [])) (M' := ((c53, 0, [.int .i64 y51]) :: (A ++ (A54 ++ [])))) M (by first | (simp only [List.append_assoc, List.cons_append, List.nil_append, List.append_nil, List.set_cons_zero, List.set_cons_succ]; done) | (simp only [List.append_assoc, List.cons_append, List.nil_append, List.append_nil, List.set_cons_zero, List.set_cons_succ]; rfl))
     have Mp := Mq
     have Mq := M
     refine d1 rfl K (os_move rfl) rfl rfl fun _ K => ?_
     refine d1 rfl K (os_move rfl) rfl rfl fun _ K => ?_
     refine wd_sliceZ (l := out) (a := k) (b := out.length) rfl K el_S_int (Mem.accR (L := [(c53, 0, [.int .i64 y51])]) (A := A) (B := (A54 ++ [])) M hA) hA.nilSl rfl rfl rfl (by omega) (by omega) rfl fun v57 _ K r57 hc57 => ?_
     refine wd_accS (L := ((c53, 0, [.int .i64 y51]) :: (A ++ []))) (A := A54) (B := []) rfl K (Mem.cast (M := ((c53, 0, [.int .i64 y51]) :: (A ++ (A54 ++ [])))) (M' := ((c53, 0, [.int .i64 y51]) :: (A ++ [])) ++ (A54 ++ [])) M (by first | (simp only [List.append_assoc, List.cons_append, List.nil_append, List.append_nil, List.set_cons_zero, List.set_cons_succ]; done) | (simp only [List.append_assoc, List.cons_append, List.nil_append, List.append_nil, List.set_cons_zero, List.set_cons_succ]; rfl))) hA54 sl_S_int rfl rfl r57 (zC_one _) (by simp [zC_len]; omega) rfl fun ks58 A58 _ _ K hA58 M => ?_
     replace M := Mem.cast (M := ((c53, 0, [.int .i64 y51]) :: (A ++ [])) ++ (A58 ++ [])) (M' := ((c53, 0, [.int .i64 y51]) :: (A ++ (A58 ++ [])))) M (by first | (simp only [List.append_assoc, List.cons_append, List.nil_append, List.append_nil, List.set_cons_zero, List.set_cons_succ]; done) | (simp only [List.append_assoc, List.cons_append, List.nil_append, List.append_nil, List.set_cons_zero, List.set_cons_succ]; rfl))
     have Mp := Mq
     have Mq := M
     refine d1 rfl K (os_assign rfl) rfl rfl fun _ K => ?_
     refine wd_nil ?_
     show W _ _ _ _ _ _ _
     refine w_region ?_
     refine o1 K (os_move rfl) rfl fun _ K => ?_
     refine o1 K (os_add rfl rfl (by omega) (by omega)) rfl fun _ K => ?_
     refine o1 K (os_assign rfl) rfl fun _ K => ?_
     refine wr_nil ?_
     have hins : insZ x out = out.take k ++ x :: out.drop k := insZ_at hk hkx (fun z hz => by first | (rw [List.getElem?_eq_none (by omega)] at hz; cases hz) | (have h1 := hnx z hz; have e1 := Option.some.inj (hi36.symm.trans hz); have e2 := Option.some.inj (hi40.symm.trans hxi); omega))
     have hA9 : Acc st.n 1 A58 ks58 (zC (insZ x out)) := by
       have e1 : y51 = x := Option.some.inj (hi51.symm.trans hxi)
       have e2 : (out.drop k).take (out.length - k) = out.drop k := List.take_of_length_le (by simp)
       have h := hA58
       rw [e1, e2, List.drop_zero, Nat.sub_zero, List.nil_append, List.append_assoc] at h
       rw [hins, zC_app, zC_cons]; exact h
     replace M := M.less (show (A58 ++ []).Sublist _ from List.Sublist.cons _ (List.sublist_append_right _ _))
     exact ⟨_, (by omega), i + 1, insZ x out, ks58, A58, rfl, (.cons (K _ _ rfl) (.cons (K _ _ rfl) (.cons (K _ _ rfl) (.cons (K _ _ rfl) .nil)))), M.less (.refl _), (by first | exact hA9 | exact hA), (by omega), (by first | exact hinv.trans (foldZ_step hxi out) | (rw [hinv, foldZ_step hxi out, insZ_same hkx (by rw [hi36, h43]; exact congrArg some (Option.some.inj (hi40.symm.trans hxi)))])), (by have := insZ_len x out; omega)⟩
   replace e33 := of_decide_eq_true e33
   refine dg rfl K rfl rfl (os_move rfl) rfl rfl fun _ K => ?_
   refine dg rfl K rfl rfl (os_move rfl) rfl rfl fun _ K => ?_
   obtain ⟨y36, hi36⟩ : ∃ x, out[k]? = some x := ⟨_, List.getElem?_eq_getElem (by omega)⟩
   obtain ⟨x36, m36, f36, q36, _, la36, lo36, lp36⟩ := (Mem.accR (L := []) (A := A) (B := []) M hA).load (i := k) (cs := _) (zC_get hi36)
   refine dg rfl K rfl rfl (os_indexAddr (j := k) el_S_int (congrArg some q36) rfl (by rw [zC_len]; omega)) rfl rfl fun _ K => ?_
   refine dg rfl K rfl rfl (os_load rfl (lo36 _ 0 _ tk_int rfl)) rfl rfl fun _ K => ?_
   refine dg rfl K rfl rfl (os_move rfl) rfl rfl fun _ K => ?_
   refine dg rfl K rfl rfl (os_move rfl) rfl rfl fun _ K => ?_
   obtain ⟨y40, hi40⟩ : ∃ x, l[i]? = some x := ⟨_, List.getElem?_eq_getElem (by omega)⟩
   obtain ⟨x40, m40, f40, q40, _, la40, lo40, lp40⟩ := (RdR.mem M hl (by simp)).load (i := i) (cs := _) (zC_get hi40)
   refine dg rfl K rfl rfl (os_indexAddr (j := i) el_S_int (congrArg some q40) rfl (by rw [zC_len]; omega)) rfl rfl fun _ K => ?_
   refine dg rfl K rfl rfl (os_load rfl (lo40 _ 0 _ tk_int rfl)) rfl rfl fun _ K => ?_
   refine dg rfl K rfl rfl (os_eqI rfl rfl) rfl rfl fun _ K => ?_
   refine d1 rfl K (os_pick rfl rfl rfl) rfl rfl fun _ K => ?_
   refine wd_nil ?_
   show W _ _ _ _ _ _ _
   refine w_cond (K.opd rfl) (fun h43 => ?_) (fun h43 => ?_)
   · have hb43 := h43
     replace h43 := of_decide_eq_true h43
     refine w_exit ?_
     show W _ _ _ _ _ _ _
     refine w_region ?_
     refine o1 K (os_move rfl) rfl fun _ K => ?_
     refine o1 K (os_add rfl rfl (by omega) (by omega)) rfl fun _ K => ?_
     refine o1 K (os_assign rfl) rfl fun _ K => ?_
     refine wr_nil ?_
     exact ⟨_, (by omega), i + 1, out, ks, A, rfl, (.cons (K _ _ rfl) (.cons (K _ _ rfl) (.cons (K _ _ rfl) (.cons (K _ _ rfl) .nil)))), M.less (.refl _), (by first | exact hA9 | exact hA), (by omega), (by first | exact hinv.trans (foldZ_step hxi out) | (rw [hinv, foldZ_step hxi out, insZ_same hkx (by rw [hi36, h43]; exact congrArg some (Option.some.inj (hi40.symm.trans hxi)))])), (by have := insZ_len x out; omega)⟩
   have hb43 := h43
   replace h43 := of_decide_eq_false h43
   refine w_skip ?_
   show W _ _ _ _ _ _ _
   refine w_drawI (l := [(0, 0), (1, 0), (2, 0), (3, 0), (4, 0), (5, 0), (6, 0), (7, 0), (8, 1), (9, 0), (10, 0), (11, 0), (12, 0), (13, 0), (14, 0), (15, 0)]) (by kernel_rfl) ?_
   have Mq := M
   refine wd_bs rfl K M sl_S_int ze_int rfl rfl rfl rfl rfl fun c44 _ _ K M => ?_
   refine d1 rfl K (os_move rfl) rfl rfl fun _ K => ?_
   refine d1 rfl K (os_move rfl) rfl rfl fun _ K => ?_
   refine wd_sliceZ (l := out) (a := 0) (b := k) rfl K el_S_int (Mem.accR (L := [(c44, 0, [])]) (A := A) (B := []) M hA) hA.nilSl rfl rfl rfl (by omega) (by omega) rfl fun v47 _ K r47 hc47 => ?_
   replace M := Mem.cast (M' := (A ++ ([(c44, 0, [])] ++ []))) (Mem.perm M (List.perm_append_comm (l₁ := [(c44, 0, [])]) (l₂ := (A ++ [])))) (by first | (simp only [List.append_assoc, List.cons_append, List.nil_append, List.append_nil, List.set_cons_zero, List.set_cons_succ]; done) | (simp only [List.append_assoc, List.cons_append, List.nil_append, List.append_nil, List.set_cons_zero, List.set_cons_succ]; rfl))
   have hA0c44 : Acc st.n 1 [(c44, 0, [])] (.sl c44 0 0 0 1) [] := Acc.own (n0 := st.n) (z := 1) (c := c44) (m := 0) (ls := []) ((M.own c44 0 [] (by simp)).resolve_right (by simp)) (by simp) (by simp)
   refine wd_accS (L := ((A ++ []))) (A := [(c44, 0, [])]) (B := []) rfl K (Mem.cast (M := (A ++ ([(c44, 0, [])] ++ []))) (M' := ((A ++ [])) ++ ([(c44, 0, [])] ++ [])) M (by first | (simp only [List.append_assoc, List.cons_append, List.nil_append, List.append_nil, List.set_cons_zero, List.set_cons_succ]; done) | (simp only [List.append_assoc, List.cons_append, List.nil_append, List.append_nil, List.set_cons_zero, List.set_cons_succ]; rfl))) hA0c44 sl_S_int rfl rfl r47 (zC_one _) (by simp [zC_len]; omega) rfl fun ks48 A48 _ _ K hA48 M => ?_
   replace M := Mem.cast (M := ((A ++ [])) ++ (A48 ++ [])) (M' := (A ++ (A48 ++ []))) M (by first | (simp only [List.append_assoc, List.cons_append, List.nil_append, List.append_nil, List.set_cons_zero, List.set_cons_succ]; done) | (simp only [List.append_assoc, List.cons_append, List.nil_append, List.append_nil, List.set_cons_zero, List.set_cons_succ]; rfl))
   have Mp := Mq
   have Mq := M
   refine d1 rfl K (os_move rfl) rfl rfl fun _ K => ?_
   refine d1 rfl K (os_move rfl) rfl rfl fun _ K => ?_
   obtain ⟨y51, hi51⟩ : ∃ x, l[i]? = some x := ⟨_, List.getElem?_eq_getElem (by omega)⟩
   obtain ⟨x51, m51, f51, q51, _, la51, lo51, lp51, la'51, lo'51, lp'51⟩ := RdR.load2 (RdR.mem M hl (by simp)) (RdR.mem Mp hl (by simp)) (i := i) (cs := _) (zC_get hi51)
   refine d1 rfl K (os_indexAddr (j := i) el_S_int (congrArg some q51) rfl (by rw [zC_len]; omega)) rfl rfl fun _ K => ?_
   refine wd_load1 rfl K rfl (lo51 _ 0 _ tk_int rfl) (lo'51 _ 0 _ tk_int rfl) (eqV_one rfl) rfl (by decide) fun _ K => ?_
   refine wd_bs rfl K M sl_S_int ze_int rfl rfl rfl rfl rfl fun c53 _ _ K M => ?_
   refine wd_acc1 (k2 := 0) (L := ((c53, 0, [.int .i64 y51]) :: (A ++ []))) (A := A48) (B := []) rfl K (Mem.cast (M := ((c53, 0, [.int .i64 y51]) :: (A ++ (A48 ++ [])))) (M' := ((c53, 0, [.int .i64 y51]) :: (A ++ [])) ++ (A48 ++ [])) M (by first | (simp only [List.append_assoc, List.cons_append, List.nil_append, List.append_nil, List.set_cons_zero, List.set_cons_succ]; done) | (simp only [List.append_assoc, List.cons_append, List.nil_append, List.append_nil, List.set_cons_zero, List.set_cons_succ]; rfl))) hA48 sl_S_int rfl rfl rfl rfl (by simp [zC_len]; omega) rfl fun ks54 A54 _ _ K hA54 M => ?_
   replace M := Mem.cast (M := ((c53, 0, [.int .i64 y51]) :: (A ++ [])) ++ (A54 ++ [])) (M' := ((c53, 0, [.int .i64 y51]) :: (A ++ (A54 ++ [])))) M (by first | (simp only [List.append_assoc, List.cons_append, List.nil_append, List.append_nil, List.set_cons_zero, List.set_cons_succ]; done) | (simp only [List.append_assoc, List.cons_append, List.nil_append, List.append_nil, List.set_cons_zero, List.set_cons_succ]; rfl))
   have Mp := Mq
   have Mq := M
   refine d1 rfl K (os_move rfl) rfl rfl fun _ K => ?_
   refine d1 rfl K (os_move rfl) rfl rfl fun _ K => ?_
   refine wd_sliceZ (l := out) (a := k) (b := out.length) rfl K el_S_int (Mem.accR (L := [(c53, 0, [.int .i64 y51])]) (A := A) (B := (A54 ++ [])) M hA) hA.nilSl rfl rfl rfl (by omega) (by omega) rfl fun v57 _ K r57 hc57 => ?_
   refine wd_accS (L := ((c53, 0, [.int .i64 y51]) :: (A ++ []))) (A := A54) (B := []) rfl K (Mem.cast (M := ((c53, 0, [.int .i64 y51]) :: (A ++ (A54 ++ [])))) (M' := ((c53, 0, [.int .i64 y51]) :: (A ++ [])) ++ (A54 ++ [])) M (by first | (simp only [List.append_assoc, List.cons_append, List.nil_append, List.append_nil, List.set_cons_zero, List.set_cons_succ]; done) | (simp only [List.append_assoc, List.cons_append, List.nil_append, List.append_nil, List.set_cons_zero, List.set_cons_succ]; rfl))) hA54 sl_S_int rfl rfl r57 (zC_one _) (by simp [zC_len]; omega) rfl fun ks58 A58 _ _ K hA58 M => ?_
   replace M := Mem.cast (M := ((c53, 0, [.int .i64 y51]) :: (A ++ [])) ++ (A58 ++ [])) (M' := ((c53, 0, [.int .i64 y51]) :: (A ++ (A58 ++ [])))) M (by first | (simp only [List.append_assoc, List.cons_append, List.nil_append, List.append_nil, List.set_cons_zero, List.set_cons_succ]; done) | (simp only [List.append_assoc, List.cons_append, List.nil_append, List.append_nil, List.set_cons_zero, List.set_cons_succ]; rfl))
   have Mp := Mq
   have Mq := M
   refine d1 rfl K (os_assign rfl) rfl rfl fun _ K => ?_
   refine wd_nil ?_
   show W _ _ _ _ _ _ _
   refine w_region ?_
   refine o1 K (os_move rfl) rfl fun _ K => ?_
   refine o1 K (os_add rfl rfl (by omega) (by omega)) rfl fun _ K => ?_
   refine o1 K (os_assign rfl) rfl fun _ K => ?_
   refine wr_nil ?_
   have hins : insZ x out = out.take k ++ x :: out.drop k := insZ_at hk hkx (fun z hz => by first | (rw [List.getElem?_eq_none (by omega)] at hz; cases hz) | (have h1 := hnx z hz; have e1 := Option.some.inj (hi36.symm.trans hz); have e2 := Option.some.inj (hi40.symm.trans hxi); omega))
   have hA9 : Acc st.n 1 A58 ks58 (zC (insZ x out)) := by
     have e1 : y51 = x := Option.some.inj (hi51.symm.trans hxi)
     have e2 : (out.drop k).take (out.length - k) = out.drop k := List.take_of_length_le (by simp)
     have h := hA58
     rw [e1, e2, List.drop_zero, Nat.sub_zero, List.nil_append, List.append_assoc] at h
     rw [hins, zC_app, zC_cons]; exact h
   replace M := M.less (show (A58 ++ []).Sublist _ from List.Sublist.cons _ (List.sublist_append_right _ _))
   exact ⟨_, (by omega), i + 1, insZ x out, ks58, A58, rfl, (.cons (K _ _ rfl) (.cons (K _ _ rfl) (.cons (K _ _ rfl) (.cons (K _ _ rfl) .nil)))), M.less (.refl _), (by first | exact hA9 | exact hA), (by omega), (by first | exact hinv.trans (foldZ_step hxi out) | (rw [hinv, foldZ_step hxi out, insZ_same hkx (by rw [hi36, h43]; exact congrArg some (Option.some.inj (hi40.symm.trans hxi)))])), (by have := insZ_len x out; omega)⟩
 have hb9 := h9
 replace h9 := of_decide_eq_false h9
 refine w_exit ?_
 show W _ _ _ _ _ _ _
 refine w_seq ?_
 refine w_region ?_
 refine o1 K (os_move rfl) rfl fun _ K => ?_
 refine o1 K (os_assign rfl) rfl fun _ K => ?_
 refine wr_nil ?_
 show W _ _ _ _ _ _ _
 refine w_ret ?_
 refine ⟨.inr rfl, _, (res_one (rs_tmp K rfl)), ?_⟩
 refine ⟨_, rfl, ?_, M.qt⟩
 rw [hinv, List.drop_eq_nil_of_le (by omega), List.foldl_nil]
 have h := Mem.newR (L := []) (A := A) (B := []) M hA
 simpa using h
end Go.Proofs.YtjjadifjcodjpaaDoor
