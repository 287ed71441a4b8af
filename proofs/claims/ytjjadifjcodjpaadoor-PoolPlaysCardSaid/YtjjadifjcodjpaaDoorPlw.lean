/-
  Pools: what is handed in is neither kept nor changed, what is told is new. PoolOwn.
-/
import Derived.Test.YtjjadifjcodjpaaDoorPlq
import Derived.Test.YtjjadifjcodjpaaDoorHdZ
namespace Go.Proofs.YtjjadifjcodjpaaDoor
open Go Go.RowKit
set_option linter.unusedVariables false
set_option linter.unusedSimpArgs false
set_option linter.unnecessarySimpa false
set_option maxRecDepth 100000
set_option maxHeartbeats 1000000

/-- What was made since, seen from the start. -/
theorem Mem.rejoin {h0 : Hp} {n0 : Nat} {X Y : List Nat} {st st' : St} {M0 M' : Rows1} (h : Mem h0 n0 X st M0) (h2 : Mem st.h.get st.n Y st' M') (hY : ∀ c ∈ Y, n0 ≤ c) : Mem h0 n0 X st' M' :=
  ⟨h2.fresh, Nat.le_trans h.le h2.le, h.base, h2.row, h2.lt, fun c m l hm => by
    rcases h2.own c m l hm with h1 | h1
    · exact .inl (Nat.le_trans h.le h1)
    · exact .inl (hY c h1), h2.nodup, fun c hc hX => by
    rw [h2.old c (Nat.lt_of_lt_of_le hc h.le) fun h1 => by have := hY c h1; omega]
    exact h.old c hc hX⟩
theorem Acc.openZ {n0 : Nat} {A : Rows1} {ks : AV} {x : Int} {l : List Int} (h : Acc n0 1 A ks (zC (x :: l))) : ∃ c m, n0 ≤ c ∧ ks = .sl c m 0 (l.length + 1) 1 ∧ A = [(c, m, .int .i64 x :: l.map zAV)] := by
  generalize hg : zC (x :: l) = ls at h
  cases h with
  | none => cases hg
  | own hc hz hb =>
    rename_i c m
    subst hg
    refine ⟨c, m, hc, ?_, ?_⟩
    · rw [zC_len]; rfl
    · rw [zC_flat]; rfl
theorem NewR.openZ {st st' : St} {ks : AV} {x : Int} {l : List Int} (h : NewR st st' 1 ks (zC (x :: l))) : ∃ c m, st.n ≤ c ∧ ks = .sl c m 0 (l.length + 1) 1 ∧ Row1 st'.h.get c m (.int .i64 x :: l.map zAV) := by
  obtain ⟨A, hA, hr⟩ := h
  obtain ⟨c, m, h1, h2, rfl⟩ := hA.openZ
  exact ⟨c, m, h1, h2, hr _ _ _ (by simp)⟩
theorem row_rdZ {h : Hp} {c m : Nat} {x : Int} {l : List Int} (r : Row1 h c m (.int .i64 x :: l.map zAV)) (hb : l.length + 1 ≤ 1000000) : RdR h [] 1 (zC (x :: l)) (.sl c m 0 (l.length + 1) 1) := by
  have := rdZ_pre (h := h) (c := c) (m := m) (l := x :: l) (rest := []) (by simpa [zAV] using r) (by simpa using hb)
  simpa using this
theorem sortedZ_cons (x : Int) (l : List Int) : ∃ y s, sortedZ (x :: l) = y :: s := by
  have h := (mem_sortedZ (x :: l) x).2 (by simp)
  cases hq : sortedZ (x :: l) with
  | nil => rw [hq] at h; cases h
  | cons y s => exact ⟨y, s, rfl⟩

theorem sameZ_same {st : St} (hf : Fresh st) {a : List Int} {ka kb : AV} (hA : RdR st.h.get [] 1 (zC a) ka) (hB : RdR st.h.get [] 1 (zC a) kb) : ∃ v st', Ev Tryd.prog envP 10 [ka, kb] st v st' ∧ v = .bool true ∧ Qt st st' := by
  obtain ⟨v, st', ev, hv, q⟩ := sameZ_ev hf hA hB
  exact ⟨v, st', ev, by rw [hv, decide_eq_true rfl], q⟩
theorem PoolIn.chg {n0 : Nat} {st st' : St} {F : Nat → Prop} {cp : Nat} {L : List (List Int)} {Y : List Nat} (H : PoolIn n0 st F cp L) (q : Chg Y st st') (hd : ∀ c, F c → c ∉ Y) : PoolIn n0 st' F cp L :=
  ⟨H.lo, fun c h => Nat.lt_of_lt_of_le (H.hi c h) q.le, H.at_.frame fun c h => q.old c (H.hi c h) (hd c h)⟩

theorem poolOwn_ev {st : St} (hf : Fresh st) {a0 : List Int} {ka : AV} (ha : RdR st.h.get [] 1 (zC a0) ka) (hza : In64 a0) : ∃ v st', Ev Tryd.prog envP 5 [ka] st v st' ∧ v = .bool true := by
 have hbna : (a0.length : Int) ≤ 9223372036854775807 := by have := ha.bnd; rw [zC_len] at this; exact this
 refine ev_fn rfl Tryd.func5 rfl Tryd.ntmps5 rfl (by decide) (by simp) fun T hT => ?_
 have K : KnT [(0, _)] T := (.cons (hT 0) .nil)
 have M := Mem.start hf
 refine w_seq ?_
 refine w_region ?_
 refine o1 K (os_assign rfl) rfl fun _ K => ?_
 refine wr_nil ?_
 show W _ _ _ _ _ _ _
 refine w_seq ?_
 refine w_seq ?_
 refine w_region ?_
 refine o1 K (os_move rfl) rfl fun _ K => ?_
 refine o1 K (os_lenL un_S_int rfl rfl (ha.len.trans (congrArg some (zC_len _)))) rfl fun _ K => ?_
 refine o1 K (os_lss rfl rfl) rfl fun _ K => ?_
 refine oB K (os_move rfl) rfl fun b10 _ e10 K => ?_
 cases b10
 · replace e10 := of_decide_eq_false e10
   refine og K rfl rfl (os_move rfl) rfl fun _ K => ?_
   refine og K rfl rfl (os_lenL un_S_int rfl rfl (ha.len.trans (congrArg some (zC_len _)))) rfl fun _ K => ?_
   refine og K rfl rfl (os_gtr rfl rfl) rfl fun _ K => ?_
   refine o1 K (os_pick rfl rfl rfl) rfl fun _ K => ?_
   refine wr_nil ?_
   show W _ _ _ _ _ _ _
   refine w_cond (K.opd rfl) (fun h14 => ?_) (fun h14 => ?_)
   · have hb14 := h14
     replace h14 := of_decide_eq_true h14
     refine w_seq ?_
     refine w_region ?_
     refine o1 K (os_assign rfl) rfl fun _ K => ?_
     refine wr_nil ?_
     show W _ _ _ _ _ _ _
     refine w_ret ?_
     refine ⟨.inr rfl, _, (res_one (rs_tmp K rfl)), ?_⟩
     rfl
   have hb14 := h14
   replace h14 := of_decide_eq_false h14
   obtain ⟨x, a, rfl⟩ : ∃ x b, a0 = x :: b := by
     cases a0 with
     | nil => simp at e10
     | cons x b => exact ⟨x, b, rfl⟩
   have hal : a.length + 1 ≤ 50 := by simp at h14; omega
   obtain ⟨y, s9, hq9⟩ := sortedZ_cons x a
   have hs9 : s9.length + 1 ≤ 50 := by have := sortedZ_len (x :: a); rw [hq9] at this; simp at this; omega
   have hg9 : getZ (ofL [] (x :: a)) ((ofN [] (x :: a) : Nat) : Int) = y :: s9 := by rw [← hq9]; rfl
   have hbd9 : ∀ s ∈ ofL [] (x :: a), s.length ≤ 100000 := by
     intro s hs
     rw [ofL_one, hq9, List.mem_singleton] at hs
     rw [hs, List.length_cons]; omega
   refine w_skip ?_
   show W _ _ _ _ _ _ _
   refine w_seq ?_
   refine w_region ?_
   obtain ⟨v15, st15, ev15, cp, F0, rfl, hP, hF0, q15⟩ := newP_in M
   refine o1 K (os_call rfl ev15) rfl fun _ K => ?_
   replace M := M.quiet q15
   refine o1 K (os_assign rfl) rfl fun _ K => ?_
   refine wr_nil ?_
   show W _ _ _ _ _ _ _
   refine w_seq ?_
   refine w_seq ?_
   refine w_region ?_
   refine o1 K (os_move rfl) rfl fun _ K => ?_
   refine o1 K (os_eqPN un_P_pool_Pool rfl rfl) rfl fun _ K => ?_
   refine wr_nil ?_
   show W _ _ _ _ _ _ _
   refine w_cond (t := false) (K.opd rfl) (fun h => by cases h) (fun _ => ?_)
   refine w_skip ?_
   show W _ _ _ _ _ _ _
   refine w_seq ?_
   refine w_region ?_
   have M0 := M
   have hn15 := M0.le
   have hlt0 := hP.hi
   have M := Mem.start M0.fresh
   refine wr_bs K M sl_S_int ze_int rfl rfl rfl rfl rfl fun c18 _ _ K M => ?_
   refine o1 K (os_move rfl) rfl fun _ K => ?_
   replace M := Mem.cast (M' := ([(c18, 0, [])] ++ [])) (Mem.perm M (List.perm_append_comm (l₁ := [(c18, 0, [])]) (l₂ := []))) (by first | (simp only [List.append_assoc, List.cons_append, List.nil_append, List.append_nil, List.set_cons_zero, List.set_cons_succ]; done) | (simp only [List.append_assoc, List.cons_append, List.nil_append, List.append_nil, List.set_cons_zero, List.set_cons_succ]; rfl))
   have hA0c18 : Acc st15.n 1 [(c18, 0, [])] (.sl c18 0 0 0 1) [] := Acc.own (n0 := st15.n) (z := 1) (c := c18) (m := 0) (ls := []) ((M.own c18 0 [] (by simp)).resolve_right (by simp)) (by simp) (by simp)
   refine wr_accS (L := []) (A := [(c18, 0, [])]) (B := []) K M hA0c18 sl_S_int rfl rfl (RdR.mem M (ha.old hf fun c hc => M0.old c hc (by simp)) (by simp)) (zC_one _) (by rw [zC_len]; simp only [List.length_nil, List.length_cons]; omega) rfl fun ks20 A20 _ _ K hA20 M => ?_
   rw [List.nil_append] at hA20
   have hP := hP.quiet M.qt
   obtain ⟨ci, mi, hci, rfl, rfl⟩ := hA20.openZ
   replace M := M0.rejoin M (by simp)
   replace M := Mem.cast (M' := [(ci, mi, .int .i64 x :: a.map zAV)]) M (by simp)
   have hciF : ¬ F0 ci := fun h => by have := hlt0 ci h; omega
   refine o1 K (os_assign rfl) rfl fun _ K => ?_
   refine wr_nil ?_
   show W _ _ _ _ _ _ _
   refine w_seq ?_
   refine w_region ?_
   refine o1 K (os_move rfl) rfl fun _ K => ?_
   refine o1 K (os_move rfl) rfl fun _ K => ?_
   have hlt7 := M.lt ci mi (.int .i64 x :: a.map zAV) (by simp)
   obtain ⟨v23, st23, ev23, rfl, F1, hP, hF1, Q1, M⟩ := ofP_in (L := []) M hP (by intro c m l hm; simp at hm; rw [hm.1]; exact hciF) (by simp) (row_rdZ (M.row1 (k := 0) rfl) (by omega)) hza (by simp only [List.length_cons]; omega)
   have hciF1 : ¬ F1 ci := fun h => (hF1 ci h).elim hciF fun h => by omega
   refine o1 K (os_call rfl ev23) rfl fun _ K => ?_
   refine o1 K (os_assign rfl) rfl fun _ K => ?_
   refine wr_nil ?_
   show W _ _ _ _ _ _ _
   refine w_seq ?_
   refine w_seq ?_
   refine w_region ?_
   refine o1 K (os_move rfl) rfl fun _ K => ?_
   refine o1 K (os_move rfl) rfl fun _ K => ?_
   obtain ⟨v26, st26, ev26, rfl, q26⟩ := sameZ_same M.fresh (row_rdZ (M.row1 (k := 0) rfl) (by omega)) (ha.old hf fun c hc => M.old c hc (by simp))
   refine o1 K (os_call rfl ev26) rfl fun _ K => ?_
   replace M := M.quiet q26
   have hP := hP.quiet q26
   refine o1 K (os_not rfl) rfl fun _ K => ?_
   refine wr_nil ?_
   show W _ _ _ _ _ _ _
   refine w_cond (t := false) (K.opd rfl) (fun h => by cases h) (fun _ => ?_)
   refine w_skip ?_
   show W _ _ _ _ _ _ _
   refine w_seq ?_
   have M0 := M
   have M := Mem.startX M0.fresh [(ci, mi, .int .i64 x :: a.map zAV)] (fun c m l h => M0.row c m l h) (by simp)
   refine w_region ?_
   refine o1 K (os_move rfl) rfl fun _ K => ?_
   refine o1 K (os_indexAddr (j := 0) el_S_int rfl rfl (by omega)) rfl fun _ K => ?_
   refine o1 K (os_load rfl (M.load (k := 0) rfl (part_one tk_int rfl))) rfl fun _ K => ?_
   refine o1 K (os_addW (c := IntKind.i64.wrap (x + 1)) rfl rfl rfl) rfl fun _ K => ?_
   refine o1 K (os_indexAddr (j := 0) el_S_int rfl rfl (by omega)) rfl fun _ K => ?_
   refine wr_store (k := 0) K M rfl rfl rfl sz_int rfl rfl rfl fun _ M => ?_
   refine wr_nil ?_
   have hP := hP.chg M.chg (by intro c h hc; simp at hc; exact hciF1 (hc ▸ h))
   replace M := M0.rejoin M (by intro c hc; simp at hc; omega)
   replace M := M.less (List.nil_sublist _)
   show W _ _ _ _ _ _ _
   refine w_seq ?_
   refine w_region ?_
   refine o1 K (os_move rfl) rfl fun _ K => ?_
   refine o1 K (os_move rfl) rfl fun _ K => ?_
   have hlt1 := hP.hi
   have hn35 := M.le
   obtain ⟨v35, st35, ev35, ks35, rfl, nr35, q35⟩ := getP_in M hP hbd9 _
   rw [hg9] at nr35
   obtain ⟨cg, mg, hcg, rfl, rg⟩ := nr35.openZ
   have hcgF : ¬ F1 cg := fun h => by have := hlt1 cg h; omega
   refine o1 K (os_call rfl ev35) rfl fun _ K => ?_
   replace M := M.callN q35 rg hcg
   have hP := hP.quiet q35
   refine o1 K (os_assign rfl) rfl fun _ K => ?_
   refine wr_nil ?_
   show W _ _ _ _ _ _ _
   refine w_seq ?_
   refine w_seq ?_
   refine w_region ?_
   refine o1 K (os_move rfl) rfl fun _ K => ?_
   refine o1 K (os_move rfl) rfl fun _ K => ?_
   obtain ⟨v38, st38, ev38, ks38, rfl, nr38, q38⟩ := rSorted_ev M.fresh (ha.old hf fun c hc => M.old c hc (by simp)) (by simp only [List.length_cons]; omega)
   rw [hq9] at nr38
   refine o1 K (os_call rfl ev38) rfl fun _ K => ?_
   have hP := hP.quiet q38
   obtain ⟨A38, hA38, M⟩ := M.callAcc q38 nr38
   obtain ⟨v39, st39, ev39, rfl, q39⟩ := sameZ_same M.fresh (row_rdZ (M.row1 (k := 0) rfl) (by omega)) (Mem.accR (L := [(cg, mg, .int .i64 y :: s9.map zAV)]) (A := A38) (B := []) M hA38)
   refine o1 K (os_call rfl ev39) rfl fun _ K => ?_
   replace M := M.quiet q39
   have hP := hP.quiet q39
   replace M := M.less (M' := [(cg, mg, .int .i64 y :: s9.map zAV)]) (.cons_cons _ (List.nil_sublist _))
   refine o1 K (os_not rfl) rfl fun _ K => ?_
   refine wr_nil ?_
   show W _ _ _ _ _ _ _
   refine w_cond (t := false) (K.opd rfl) (fun h => by cases h) (fun _ => ?_)
   refine w_skip ?_
   show W _ _ _ _ _ _ _
   refine w_seq ?_
   have M0 := M
   have M := Mem.startX M0.fresh [(cg, mg, .int .i64 y :: s9.map zAV)] (fun c m l h => M0.row c m l h) (by simp)
   refine w_region ?_
   refine o1 K (os_move rfl) rfl fun _ K => ?_
   refine o1 K (os_indexAddr (j := 0) el_S_int rfl rfl (by omega)) rfl fun _ K => ?_
   refine o1 K (os_load rfl (M.load (k := 0) rfl (part_one tk_int rfl))) rfl fun _ K => ?_
   refine o1 K (os_subW (c := IntKind.i64.wrap (y - 1)) rfl rfl rfl) rfl fun _ K => ?_
   refine o1 K (os_indexAddr (j := 0) el_S_int rfl rfl (by omega)) rfl fun _ K => ?_
   refine wr_store (k := 0) K M rfl rfl rfl sz_int rfl rfl rfl fun _ M => ?_
   refine wr_nil ?_
   have hP := hP.chg M.chg (by intro c h hc; simp at hc; exact hcgF (hc ▸ h))
   replace M := M0.rejoin M (by intro c hc; simp at hc; omega)
   replace M := M.less (List.nil_sublist _)
   show W _ _ _ _ _ _ _
   refine w_seq ?_
   refine w_region ?_
   refine o1 K (os_move rfl) rfl fun _ K => ?_
   refine o1 K (os_move rfl) rfl fun _ K => ?_
   obtain ⟨v48, st48, ev48, ks48, rfl, nr48, q48⟩ := getP_in M hP hbd9 _
   rw [hg9] at nr48
   refine o1 K (os_call rfl ev48) rfl fun _ K => ?_
   have hP := hP.quiet q48
   obtain ⟨A48, hA48, M⟩ := M.callAcc q48 nr48
   replace M := Mem.cast (M' := A48 ++ []) M (by simp)
   refine o1 K (os_move rfl) rfl fun _ K => ?_
   obtain ⟨v50, st50, ev50, ks50, rfl, nr50, q50⟩ := rSorted_ev M.fresh (ha.old hf fun c hc => M.old c hc (by simp)) (by simp only [List.length_cons]; omega)
   rw [hq9] at nr50
   refine o1 K (os_call rfl ev50) rfl fun _ K => ?_
   have hP := hP.quiet q50
   obtain ⟨A50, hA50, M⟩ := M.callAcc q50 nr50
   obtain ⟨v51, st51, ev51, rfl, q51⟩ := sameZ_same M.fresh (Mem.accR (L := []) (A := A48) (B := (A50 ++ [])) (Mem.cast (M' := [] ++ (A48 ++ (A50 ++ []))) M (by simp)) hA48) (Mem.accR (L := (A48 ++ [])) (A := A50) (B := []) M hA50)
   refine o1 K (os_call rfl ev51) rfl fun _ K => ?_
   replace M := M.quiet q51
   refine o1 K (os_move rfl) rfl fun _ K => ?_
   have ev53 := known15_ev
   refine og K rfl rfl (os_call rfl (ev53 _)) rfl fun _ K => ?_
   refine o1 K (os_pick rfl rfl rfl) rfl fun _ K => ?_
   refine o1 K (os_assign rfl) rfl fun _ K => ?_
   refine wr_nil ?_
   show W _ _ _ _ _ _ _
   refine w_ret ?_
   refine ⟨.inr rfl, _, (res_one (rs_tmp K rfl)), ?_⟩
   rfl
 replace e10 := of_decide_eq_true e10
 refine gn K rfl rfl rfl rfl fun _ K => ?_
 refine gn K rfl rfl rfl rfl fun _ K => ?_
 refine gn K rfl rfl rfl rfl fun _ K => ?_
 refine o1 K (os_pick rfl rfl rfl) rfl fun _ K => ?_
 refine wr_nil ?_
 show W _ _ _ _ _ _ _
 refine w_cond (t := true) (K.opd rfl) (fun _ => ?_) (fun h => by cases h)
 refine w_seq ?_
 refine w_region ?_
 refine o1 K (os_assign rfl) rfl fun _ K => ?_
 refine wr_nil ?_
 show W _ _ _ _ _ _ _
 refine w_ret ?_
 refine ⟨.inr rfl, _, (res_one (rs_tmp K rfl)), ?_⟩
 rfl
theorem walk_poolOwn {H : Type} {enc : TypeId × Value → H} {W : World} {v0 : Value} {d0 : DataW H} {p0 : List MemPlace} (h0 : DataW.Trod enc Tryd.prog W 0 (fun _ => true) true 22 v0 d0 p0) (n0 : ∀ cs, v0 ≠ .agg cs) (hT : TabsP W) :
    Calls Tryd.prog 5 #[v0] W fun e w' => e = .returned (.bool true) ∧ Below W.heap.size W w' := by
  obtain ⟨ml1, ks, l, _, hM1, hr, hz, hw, hc⟩ := hand_intsZ GoodM.nil h0 n0
  have := open_true (G := envP) (fun _ => rfl) envP_ok mixed (f := 5) (args := [ks]) hM1 ⟨hw, trivial⟩
    (poolOwn_ev (stM_fresh ml1) (a0 := l) (by rw [stM_get]; exact hr) hz) hT
  rw [show concL (plM ml1) [ks] = [v0] by rw [← hc]; rfl] at this
  exact this
end Go.Proofs.YtjjadifjcodjpaaDoor
