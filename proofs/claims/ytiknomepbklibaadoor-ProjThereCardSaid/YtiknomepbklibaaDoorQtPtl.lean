/-
  ProjThere.
-/
import Derived.Test.YtiknomepbklibaaDoorQtPth
namespace Go.Proofs.YtiknomepbklibaaDoor
open Go Go.RowKit
set_option linter.unusedVariables false
set_option linter.unusedSimpArgs false
set_option linter.unnecessarySimpa false
set_option maxRecDepth 100000
set_option maxHeartbeats 4000000

/-- A thing more. -/
theorem MemO.add {st0 st : St} {X0 : Fp} {M : Rows2} {Os : List Ob} {o : Ob} (B : MemO st0 X0 st M Os) (h : o.H st.h.get) (hi : ∀ c, o.F c → c < st.n ∧ st0.n ≤ c) (hd : ∀ p ∈ Os, ∀ c, o.F c → ¬ p.F c) (hM : ∀ c m l, (c, m, l) ∈ M → ¬ o.F c) : MemO st0 X0 st M (o :: Os) := by
  refine ⟨B.fresh, B.le, B.row, B.nodup, B.lo, fun p hp => ?_, fun p hp c hc => ?_, List.pairwise_cons.2 ⟨hd, B.dj⟩, fun p hp c m l hm => ?_, B.old⟩
  · rcases List.mem_cons.1 hp with rfl | hp
    · exact h
    · exact B.obj p hp
  · rcases List.mem_cons.1 hp with rfl | hp
    · exact ⟨(hi c hc).1, .inl (hi c hc).2⟩
    · exact B.hi p hp c hc
  · rcases List.mem_cons.1 hp with rfl | hp
    · exact hM c m l hm
    · exact B.djM p hp c m l hm
/-- What a call with a meter made, which is new. -/
theorem MemO.addNew {st0 st st' : St} {X0 : Fp} {M : Rows2} {Os : List Ob} {o om om' : Ob} {k : Nat} (B0 : MemO st0 X0 st M Os) (hk : Os[k]? = some om) (hF : om'.F = om.F) (B : MemO st0 X0 st' M (Os.set k om')) (h : o.H st'.h.get) (hn : NewF st st' o.F) : MemO st0 X0 st' M (o :: Os.set k om') := by
  refine B.add h (fun c hc => ⟨(hn c hc).2, Nat.le_trans B0.le (hn c hc).1⟩) (fun p hp c hc hpc => ?_) (fun c m l hm hc => ?_)
  · have h1 := (hn c hc).1
    rcases List.mem_or_eq_of_mem_set hp with hp | rfl
    · have := (B0.hi p hp c hpc).1; omega
    · rw [hF] at hpc
      have := B0.hi_ hk c hpc
      omega
  · have h1 := (hn c hc).1
    have := (B0.row c m l hm).lt B0.fresh
    omega
theorem ProjR.ex {st st' : St} {a : Au} {k : Nat} {acc : List Bool} {mp l : Nat} {v : AV} (H : ProjR st st' a k acc mp l v) : ∃ xv ev l', v = .tup [xv, .int .i64 ev] ∧ Row1 st'.h.get mp 0 [.int .i64 ((l' : Nat) : Int), .bool false] ∧
  ((ev = 0 ∧ ∃ dp2 F2 L m, xv = .ptr dp2 0 0 ∧ DfaI st' F2 dp2 m ∧ NewF st st' F2 ∧ m.tr = a.tr - 1 ∧ MadeA (stepS a k) [0] (anyS acc) L m ∧ l' = l - L.length) ∨
   (ev = 8 ∧ xv = .nilp ∧ ∃ L : List (List Int), L.length = 401 ∧ L.Nodup ∧ ∀ (Q : List Int → Prop), Q [0] → (∀ s c, Q s → c < 2 ^ (a.tr - 1) → Q (stepS a k s c)) → ∀ s ∈ L, Q s)) := by
 rcases H with ⟨dp2, F2, L, m, h1, h2, h3, h4, h5, h6⟩ | ⟨h1, L, h2, h3, h4, h5⟩
 ·exact ⟨_, _, _, h1, h6, .inl ⟨rfl, dp2, F2, L, m, rfl, h2, h3, h4, h5, rfl⟩⟩
 ·exact ⟨_, _, _, h1, h5, .inr ⟨rfl, rfl, L, h2, h3, h4⟩⟩
theorem zN_of {w : List Int} {K : Nat} (h : ∀ c ∈ w, 0 ≤ c ∧ c < ((K : Nat) : Int)) : ∃ wn, w = zN wn ∧ LetK K wn := by
 refine ⟨w.map Int.toNat, ?_, fun c hc => ?_⟩
 ·unfold zN
  rw [List.map_map]
  refine (List.map_id w).symm.trans (List.map_congr_left fun c hc => ?_)
  exact (Int.toNat_of_nonneg (h c hc).1).symm
 ·obtain ⟨z, hz, rfl⟩ := List.mem_map.1 hc
  have := h z hz
  omega
theorem noMore {st st' : St} {F : Fp} (h : ∀ c, F c → c < st'.n) : MoreF st st' F F := fun c hc => ⟨.inl hc, h c hc⟩

theorem projThere_ev {st : St} (hf : Fresh st) {t : Int} {acc : List Bool} {nx : List (List Int)} {ka kn : AV} {ls : List (List AV)} (hA : RdR st.h.get [] 1 (bC acc) ka) (hN : LsR st.h.get nx kn ls) {k : Int} {w : List Int} {kw : AV} (hw : RdR st.h.get [] 1 (zC w) kw) {bs : List Bool} {kb : AV} (hb : RdR st.h.get [] 1 (bC bs) kb) : ∃ v st', Ev Tryd.prog envP 5 [.agg [.int .i64 t, ka, kn], .int .i64 k, kw, kb] st v st' ∧ v = .bool true := by
 have hac := hA.cell; have hnc := hN.r.cell
 have hbnacc : (acc.length : Int) ≤ 9223372036854775807 := by have := hA.bnd; rw [bC_len] at this; exact this
 have hbn : (nx.length : Int) ≤ 9223372036854775807 := by have := hN.r.bnd; rw [hN.ln] at this; exact this
 have hbnw : (w.length : Int) ≤ 9223372036854775807 := by have := hw.bnd; rw [zC_len] at this; exact this
 have hbnbs : (bs.length : Int) ≤ 9223372036854775807 := by have := hb.bnd; rw [bC_len] at this; exact this
 have hwc := hw.cell; have hbc := hb.cell
 have B := MemO.start hf
 refine ev_fn rfl Tryd.func5 rfl Tryd.ntmps5 rfl (by decide) (by simp) fun T hT => ?_
 have K : KnT [(0, _), (1, _), (2, _), (3, _)] T := (.cons (hT 0) (.cons (hT 1) (.cons (hT 2) (.cons (hT 3) .nil))))
 have M := B.mem
 refine w_seq <| w_region ?_
 refine wr_box K M rfl (cl_cons rfl (cl_cons hA.cell (cl_cons hN.r.cell cl_nil))) (by decide) fun c4 _ _ K M => ?_
 refine o1 K (os_assign rfl) rfl fun _ K => wr_nil ?_
 show W _ _ _ _ _ _ _
 refine w_seq <| w_seq <| w_region <| o1 K (os_load rfl (M.load (k := 0) rfl (part_agg tk_api_Auto rfl))) rfl fun _ K => ?_
 obtain ⟨v17, st17, ev17, bm, rfl, hbm, q17⟩ := may22_ev M.fresh ((B.step M).rd0 hf hA) (hN.old hf fun c hc => (B.step M).old c hc id)
 refine o1 K (os_call rfl ev17) rfl fun _ K => ?_
 replace M := M.quiet q17
 refine o1 K (os_not rfl) rfl fun _ K => ?_
 refine oB K (os_move rfl) rfl fun b19 _ e19 K => ?_
 cases b19
 · replace e19 : (bm) = true := by first | simpa using e19 | (revert e19; cases (bm) <;> simp)
   refine og K rfl rfl (os_fieldAddr fo_api_Auto_1 rfl) rfl fun _ K => og K rfl rfl (os_load rfl (M.load (k := 0) rfl (part_one tk_S_bool rfl))) rfl fun _ K => og K rfl rfl (os_lenL un_S_bool rfl rfl (hA.len.trans (congrArg some (bC_len _)))) rfl fun _ K => og K rfl rfl (os_gtr rfl rfl) rfl fun _ K => o1 K (os_pick rfl rfl rfl) rfl fun _ K => ?_
   refine oB K (os_move rfl) rfl fun b25 _ e25 K => ?_
   cases b25
   · replace e25 := of_decide_eq_false e25
     refine og K rfl rfl (os_move rfl) rfl fun _ K => og K rfl rfl (os_lss rfl rfl) rfl fun _ K => o1 K (os_pick rfl rfl rfl) rfl fun _ K => ?_
     refine oB K (os_move rfl) rfl fun b29 _ e29 K => ?_
     cases b29
     · replace e29 := of_decide_eq_false e29
       refine og K rfl rfl (os_move rfl) rfl fun _ K => og K rfl rfl (os_fieldAddr fo_api_Auto_0 rfl) rfl fun _ K => og K rfl rfl (os_load rfl (M.load (k := 0) rfl (part_one tk_int rfl))) rfl fun _ K => og K rfl rfl (os_geq rfl rfl) rfl fun _ K => o1 K (os_pick rfl rfl rfl) rfl fun _ K => ?_
       refine oB K (os_move rfl) rfl fun b35 _ e35 K => ?_
       cases b35
       · replace e35 := of_decide_eq_false e35
         refine og K rfl rfl (os_move rfl) rfl fun _ K => og K rfl rfl (os_lenL un_S_int rfl rfl (hw.len.trans (congrArg some (zC_len _)))) rfl fun _ K => og K rfl rfl (os_gtr rfl rfl) rfl fun _ K => o1 K (os_pick rfl rfl rfl) rfl fun _ K => ?_
         refine oB K (os_move rfl) rfl fun b40 _ e40 K => ?_
         cases b40
         · replace e40 := of_decide_eq_false e40
           refine og K rfl rfl (os_move rfl) rfl fun _ K => og K rfl rfl (os_lenL un_S_bool rfl rfl (hb.len.trans (congrArg some (bC_len _)))) rfl fun _ K => og K rfl rfl (os_gtr rfl rfl) rfl fun _ K => o1 K (os_pick rfl rfl rfl) rfl fun _ K => wr_nil ?_
           show W _ _ _ _ _ _ _
           refine w_cond (K.opd rfl) (fun h44 => ?_) (fun h44 => ?_)
           · have hb44 := h44
             replace h44 := of_decide_eq_true h44
             refine w_seq <| w_region <| o1 K (os_assign rfl) rfl fun _ K => wr_nil ?_
             show W _ _ _ _ _ _ _
             refine w_ret ?_
             refine ⟨.inr rfl, _, (res_one (rs_tmp K rfl)), ?_⟩
             first
              | rfl
              | (exfalso; clear M B; simp_all; done)
           have hb44 := h44
           replace h44 := of_decide_eq_false h44
           refine w_skip ?_
           show W _ _ _ _ _ _ _
           refine w_seq <| w_seq ?_
           obtain ⟨ht0, wf, h40⟩ := hbm (by simpa using e19)
           obtain ⟨tn, rfl⟩ : ∃ m : Nat, t = ((m : Nat) : Int) := ⟨t.toNat, by omega⟩
           rw [Int.toNat_natCast] at wf
           obtain ⟨kk, rfl⟩ : ∃ m : Nat, k = ((m : Nat) : Int) := ⟨k.toNat, by omega⟩
           have hkt : kk < tn := by omega
           have htr : tn ≤ 6 := wf.tr
           have hp6 := pow_le64 (T := tn - 1) (by omega)
           refine w_region <| o1 K (os_assign rfl) rfl fun _ K => wr_nil ?_
           show W _ _ _ _ _ _ _
           refine w_block ?_
           refine w_loop (fun mm1 T st9 => ∃ (i : Nat), mm1 = w.length - i ∧ KnT [(1, .int .i64 (((kk : Nat) : Int))), (2, kw), (3, kb), (4, .ptr c4 0 0), (9, .int .i64 (((i : Nat) : Int)))] T ∧ MemO st noX st9 [(c4, 0, [.int .i64 (((tn : Nat) : Int)), ka, kn])] [] ∧ i ≤ w.length ∧ (∀ (j : Nat) (c : Int), j < i → w[j]? = some c → 0 ≤ c ∧ c < ((2 ^ (tn - 1) : Nat) : Int))) (fun mm1 T st9 hI => ?_) _ _ _ ⟨0, rfl, (.cons (K _ _ rfl) (.cons (K _ _ rfl) (.cons (K _ _ rfl) (.cons (K _ _ rfl) (.cons (K _ _ rfl) .nil))))), (B.step M).less (.refl _), (Nat.zero_le _), (fun j c hj => absurd hj (Nat.not_lt_zero j))⟩
           obtain ⟨i, rfl, K, B, hi, hlet⟩ := hI
           have M := B.mem
           refine w_seq <| w_seq <| w_region <| o1 K (os_move rfl) rfl fun _ K => o1 K (os_move rfl) rfl fun _ K => o1 K (os_lenL un_S_int rfl rfl (hw.len.trans (congrArg some (zC_len _)))) rfl fun _ K => o1 K (os_lss rfl rfl) rfl fun _ K => wr_nil ?_
           show W _ _ _ _ _ _ _
           refine w_cond (K.opd rfl) (fun h48 => ?_) (fun h48 => ?_)
           · have hb48 := h48
             replace h48 := of_decide_eq_true h48
             refine w_skip ?_
             show W _ _ _ _ _ _ _
             refine w_seq <| w_block <| w_seq ?_
             refine w_drawI (l := [(0, 0), (1, 0), (2, 0), (3, 0), (4, 0), (5, 0), (6, 0), (7, 0), (8, 0), (9, 0), (10, 0), (11, 0), (12, 0), (13, 0), (14, 0), (15, 0), (16, 0)]) (by kernel_rfl) ?_
             refine d1 rfl K (os_move rfl) rfl rfl fun _ K => d1 rfl K (os_move rfl) rfl rfl fun _ K => ?_
             obtain ⟨y53, hi53⟩ : ∃ x, w[i]? = some x := ⟨_, List.getElem?_eq_getElem (by omega)⟩
             obtain ⟨x53, m53, f53, q53, _, la53, lo53, lp53⟩ := ((B.step M).rd0 hf hw).load (i := i) (cs := _) (zC_get hi53)
             refine d1 rfl K (os_indexAddr (j := i) el_S_int (congrArg some q53) rfl (by rw [zC_len]; omega)) rfl rfl fun _ K => d1 rfl K (os_load rfl (lo53 _ 0 _ tk_int rfl)) rfl rfl fun _ K => d1 rfl K (os_lss rfl rfl) rfl rfl fun _ K => ?_
             refine dB rfl K (os_move rfl) rfl rfl fun b56 _ e56 K => ?_
             cases b56
             · replace e56 := of_decide_eq_false e56
               refine dg rfl K rfl rfl (os_move rfl) rfl rfl fun _ K => dg rfl K rfl rfl (os_move rfl) rfl rfl fun _ K => ?_
               obtain ⟨x59, m59, f59, q59, _, la59, lo59, lp59⟩ := ((B.step M).rd0 hf hw).load (i := i) (cs := _) (zC_get hi53)
               refine dg rfl K rfl rfl (os_indexAddr (j := i) el_S_int (congrArg some q59) rfl (by rw [zC_len]; omega)) rfl rfl fun _ K => dg rfl K rfl rfl (os_load rfl (lo59 _ 0 _ tk_int rfl)) rfl rfl fun _ K => dg rfl K rfl rfl (os_fieldAddr fo_api_Auto_0 rfl) rfl rfl fun _ K => dg rfl K rfl rfl (os_load rfl (M.load (k := 0) rfl (part_one tk_int rfl))) rfl rfl fun _ K => dg rfl K rfl rfl (os_predN rfl rfl (by omega) (by omega)) rfl rfl fun _ K => dg rfl K rfl rfl (os_convW (c := (((tn - 1) : Nat) : Int)) un_uint un_int rfl (IntWalk.u64_in _ (by omega))) rfl rfl fun _ K => dg rfl K rfl rfl (os_shl1 (n := (tn - 1)) rfl rfl (by omega)) rfl rfl fun _ K => dg rfl K rfl rfl (os_geq rfl rfl) rfl rfl fun _ K => d1 rfl K (os_pick rfl rfl rfl) rfl rfl fun _ K => ?_
               refine wd_nil ?_
               show W _ _ _ _ _ _ _
               refine w_cond (K.opd rfl) (fun h67 => ?_) (fun h67 => ?_)
               · have hb67 := h67
                 replace h67 := of_decide_eq_true h67
                 refine w_seq <| w_region <| o1 K (os_assign rfl) rfl fun _ K => wr_nil ?_
                 show W _ _ _ _ _ _ _
                 refine w_ret ?_
                 refine ⟨.inr rfl, _, (res_one (rs_tmp K rfl)), ?_⟩
                 first
                  | rfl
                  | (exfalso; clear M B; simp_all; done)
               have hb67 := h67
               replace h67 := of_decide_eq_false h67
               refine w_skip ?_
               show W _ _ _ _ _ _ _
               refine w_region <| o1 K (os_move rfl) rfl fun _ K => o1 K (os_add rfl rfl (by omega) (by omega)) rfl fun _ K => o1 K (os_assign rfl) rfl fun _ K => wr_nil ?_
               exact ⟨_, (by omega), i + 1, rfl, (.cons (K _ _ rfl) (.cons (K _ _ rfl) (.cons (K _ _ rfl) (.cons (K _ _ rfl) (.cons (K _ _ rfl) .nil))))), (B.step M).less (.refl _), (by omega), (elems_more hlet hi53 (by omega))⟩
             replace e56 := of_decide_eq_true e56
             refine dgn rfl K rfl rfl rfl rfl fun _ _ K => dgn rfl K rfl rfl rfl rfl fun _ _ K => dgn rfl K rfl rfl rfl rfl fun _ _ K => dgn rfl K rfl rfl rfl rfl fun _ _ K => dgn rfl K rfl rfl rfl rfl fun _ _ K => dgn rfl K rfl rfl rfl rfl fun _ _ K => dgn rfl K rfl rfl rfl rfl fun _ _ K => dgn rfl K rfl rfl rfl rfl fun _ _ K => dgn rfl K rfl rfl rfl rfl fun _ _ K => ?_
             refine dgn rfl K rfl rfl rfl rfl fun _ _ K => d1 rfl K (os_pick rfl rfl rfl) rfl rfl fun _ K => wd_nil ?_
             show W _ _ _ _ _ _ _
             refine w_cond (t := true) (K.opd rfl) (fun _ => ?_) (fun h => by cases h)
             refine w_seq <| w_region <| o1 K (os_assign rfl) rfl fun _ K => wr_nil ?_
             show W _ _ _ _ _ _ _
             refine w_ret ?_
             refine ⟨.inr rfl, _, (res_one (rs_tmp K rfl)), ?_⟩
             first
              | rfl
              | (exfalso; clear M B; simp_all; done)
           have hb48 := h48
           replace h48 := of_decide_eq_false h48
           refine w_exit ?_
           show W _ _ _ _ _ _ _
           refine w_seq ?_
           obtain ⟨wn, rfl, hwk⟩ := zN_of (at_mem (by omega) hlet)
           have hwkA : LetK (2 ^ ((⟨tn, acc, nx⟩ : Au).tr - 1)) wn := hwk
           have hwl : wn.length ≤ 30 := by rw [zN_len] at *; omega
           refine w_region <| o1 K (os_load rfl (M.load (k := 0) rfl (part_agg tk_api_Auto rfl))) rfl fun _ K => ?_
           replace B := B.step M
           obtain ⟨v70, st70, ev70, dp, F1, rfl, hD, nf, q70⟩ := of22_ev (a := (⟨tn, acc, nx⟩ : Au)) B.fresh wf (B.rd0 hf hA) (hN.old hf fun c hc => B.old c hc id)
           refine o1 K (os_call rfl ev70) rfl fun _ K => ?_
           replace B := B.new (o := dfaO F1 dp (⟨tn, acc, nx⟩ : Au)) q70 hD.at_ nf
           have M := B.mem
           refine o1 K (os_move rfl) rfl fun _ K => ?_
           replace B := B.step M
           obtain ⟨v72, st72, ev72, mp, rfl, hmp, hmr, q72⟩ := mNew_ev B.fresh 100000
           refine o1 K (os_call rfl ev72) rfl fun _ K => ?_
           replace B := B.new (o := mtO mp 100000 false) q72 hmr (fun c hc => by rw [show c = mp from hc]; exact ⟨hmp, hmr.lt q72.fresh⟩)
           have M := B.mem
           replace B := B.step M
           have B0 := B
           obtain ⟨v73, st73, ev73, ⟨acc1, hcl, hPR⟩, QP⟩ := pProject_ev B.fresh (B.dfa (k := 1) rfl) hkt (show Row1 _ mp 0 [.int .i64 ((100000 : Nat) : Int), .bool false] from B.at_ (k := 0) rfl) (fun h => (List.pairwise_cons.1 B.dj).1 (dfaO F1 dp (⟨tn, acc, nx⟩ : Au)) (by simp) mp rfl h) (by decide) (by decide)
           refine o1 K (os_call rfl ev73) rfl fun _ K => ?_
           obtain ⟨xv, ev, l2, rfl, hml, hPR⟩ := hPR.ex
           replace B := B.call (k := 0) (o' := mtO mp l2 false) rfl QP hml (noMore fun c hc => by rw [show c = mp from hc]; exact hml.lt QP.fresh)
           have hxc : isCell xv = true := by rcases hPR with ⟨_, _, _, _, _, h, _⟩ | ⟨_, h, _⟩ <;> subst h <;> rfl
           have M := B.mem
           refine o1 K (os_move rfl) rfl fun _ K => o1 K (os_extract rfl rfl) rfl fun _ K => o1 K (os_extract rfl rfl) rfl fun _ K => o1 K (os_assign rfl) rfl fun _ K => o1 K (os_assign rfl) rfl fun _ K => wr_nil ?_
           show W _ _ _ _ _ _ _
           refine w_seq <| w_seq <| w_region <| o1 K (os_move rfl) rfl fun _ K => o1 K (os_eqI rfl rfl) rfl fun _ K => wr_nil ?_
           show W _ _ _ _ _ _ _
           refine w_cond (K.opd rfl) (fun h77 => ?_) (fun h77 => ?_)
           · have hb77 := h77
             replace h77 := of_decide_eq_true h77
             refine w_seq <| w_region ?_
             have ev78 := known22_ev
             refine o1 K (os_call rfl (ev78 _)) rfl fun _ K => o1 K (os_assign rfl) rfl fun _ K => wr_nil ?_
             show W _ _ _ _ _ _ _
             refine w_ret ?_
             refine ⟨.inr rfl, _, (res_one (rs_tmp K rfl)), ?_⟩
             first
              | rfl
              | (exfalso; clear M B; simp_all; done)
           have hb77 := h77
           replace h77 := of_decide_eq_false h77
           refine w_skip ?_
           show W _ _ _ _ _ _ _
           refine w_seq <| w_seq ?_
           obtain ⟨rfl, dp2, F2, L, m, rfl, hD2, nf2, htr2, hMd, _⟩ := hPR.resolve_right (fun h => h77 h.1)
           replace B := B0.addNew (k := 0) (o := dfaO F2 dp2 m) (om' := mtO mp l2 false) rfl rfl (B.step M) hD2.at_ nf2
           have M := B.mem
           have hwm : LetK m.K wn := by unfold Au.K; rw [htr2]; exact hwk
           have hF1 : (⟨tn, acc, nx⟩ : Au).ok ((⟨tn, acc, nx⟩ : Au).run 0 (putW kk wn bs)) = true → m.ok (m.run 0 wn) = true := fun h => by rw [hMd.lang hwm]; exact there_of wf hkt hcl hwkA h
           have hF2 : m.ok (m.run 0 wn) = true → ∃ j, j < (⟨tn, acc, nx⟩ : Au).n ∧ ∃ z ∈ setAt (⟨tn, acc, nx⟩ : Au) kk wn (wn.length + j), (⟨tn, acc, nx⟩ : Au).ok z.toNat = true := fun h => there_some wf hkt hcl hwkA (by rw [← hMd.lang hwm]; exact h)
           refine w_region <| o1 K (os_move rfl) rfl fun _ K => o1 K (os_neI rfl rfl) rfl fun _ K => ?_
           refine oB K (os_move rfl) rfl fun b81 _ e81 K => ?_
           cases b81
           · replace e81 : (0 = 0) := by first | simpa using e81 | (by_cases hq : (0 = 0); exact hq; rw [decide_eq_false hq] at e81; cases e81)
             refine og K rfl rfl (os_move rfl) rfl fun _ K => og K rfl rfl (os_eqPN un_P_auto_DFA rfl rfl) rfl fun _ K => o1 K (os_pick rfl rfl rfl) rfl fun _ K => wr_nil ?_
             show W _ _ _ _ _ _ _
             refine w_cond (t := false) (K.opd rfl) (fun h => by cases h) (fun _ => ?_)
             refine w_skip ?_
             show W _ _ _ _ _ _ _
             refine w_seq ?_
             refine w_drawI (l := [(1, 0), (2, 0), (3, 0), (4, 0), (0, 1), (5, 0), (6, 0), (7, 0), (8, 0), (9, 0), (10, 0)]) (by kernel_rfl) ?_
             have Mq := M
             refine d1 rfl K (os_move rfl) rfl rfl fun _ K => d1 rfl K (os_move rfl) rfl rfl fun _ K => d1 rfl K (os_move rfl) rfl rfl fun _ K => ?_
             obtain ⟨v90, st90, ev90, kp, rfl, nrp, q90⟩ := put22_ev (k := kk) M.fresh ((B.step M).rd0 hf hw) (fun c hc => by have := hwk c hc; omega) ((B.step M).rd0 hf hb) (by omega) (by omega) (by omega)
             refine dA rfl K (os_call rfl ev90) rfl rfl fun _ K => ?_
             obtain ⟨Ap, hAp, M⟩ := M.callAcc q90 nrp
             replace hAp := hAp.z0
             replace M := Mem.cast (M' := ((c4, 0, [.int .i64 (((tn : Nat) : Int)), ka, kn]) :: (Ap ++ []))) M (by first | (simp only [List.append_assoc, List.cons_append, List.nil_append, List.append_nil, List.set_cons_zero, List.set_cons_succ]; done) | (simp only [List.append_assoc, List.cons_append, List.nil_append, List.append_nil, List.set_cons_zero, List.set_cons_succ]; rfl))
             have Mp := Mq
             have Mq := M
             refine wd_load1 rfl K rfl (M.load (k := 0) rfl (part_agg tk_api_Auto rfl)) (Mp.load (k := 0) rfl (part_agg tk_api_Auto rfl)) (eqV_agg (by simp [eqOk_str, eqOk_int, eqOk_bool, eqOk_len (hA.len.trans (congrArg some (bC_len _))), eqOk_len hN.len])) rfl (by decide) fun _ K => ?_
             have hrz := runZ_nat (⟨tn, acc, nx⟩ : Au) (putW kk wn bs) 0 (putW_lt hkt hwkA bs)
             obtain ⟨v91, st91, ev91, hv91, q91⟩ := r19Run_ev (a := (⟨tn, acc, nx⟩ : Au)) M.fresh wf ((B.step M).rd0 hf hA) (hN.old hf fun c hc => (B.step M).old c hc id) (Mem.accR (L := [(c4, 0, [.int .i64 (((tn : Nat) : Int)), ka, kn])]) (A := Ap) (B := []) M hAp)
             refine dA rfl K (os_call rfl ev91) rfl rfl fun _ K => ?_
             rw [hrz] at hv91
             subst hv91
             replace M := M.quiet q91
             have Mp := Mq
             have Mq := M
             refine d1 rfl K (os_move rfl) rfl rfl fun _ K => d1 rfl K (os_extract rfl rfl) rfl rfl fun _ K => d1 rfl K (os_extract rfl rfl) rfl rfl fun _ K => d1 rfl K (os_assign rfl) rfl rfl fun _ K => d1 rfl K (os_assign rfl) rfl rfl fun _ K => wd_nil ?_
             show W _ _ _ _ _ _ _
             refine w_seq <| w_region <| o1 K (os_move rfl) rfl fun _ K => o1 K (os_move rfl) rfl fun _ K => ?_
             have hrz2 := runZ_nat m wn 0 hwm
             obtain ⟨v97, st97, ev97, hv97, q97⟩ := dRun_i M.fresh ((B.step M).dfa (k := 0) rfl) ((B.step M).rd0 hf hw)
             refine o1 K (os_call rfl ev97) rfl fun _ K => ?_
             rw [hrz2] at hv97
             subst hv97
             replace M := M.quiet q97
             refine o1 K (os_move rfl) rfl fun _ K => o1 K (os_extract rfl rfl) rfl fun _ K => o1 K (os_extract rfl rfl) rfl fun _ K => o1 K (os_assign rfl) rfl fun _ K => o1 K (os_assign rfl) rfl fun _ K => wr_nil ?_
             show W _ _ _ _ _ _ _
             refine w_seq <| w_region <| o1 K (os_move rfl) rfl fun _ K => o1 K (os_not rfl) rfl fun _ K => ?_
             refine oB K (os_move rfl) rfl fun b102 _ e102 K => ?_
             cases b102
             · replace e102 : (((⟨tn, acc, nx⟩ : Au).ok ((⟨tn, acc, nx⟩ : Au).run 0 (putW kk wn bs)))) = true := by first | simpa using e102 | (revert e102; cases (((⟨tn, acc, nx⟩ : Au).ok ((⟨tn, acc, nx⟩ : Au).run 0 (putW kk wn bs)))) <;> simp)
               refine og K rfl rfl (os_move rfl) rfl fun _ K => o1 K (os_pick rfl rfl rfl) rfl fun _ K => ?_
               refine oB K (os_move rfl) rfl fun b105 _ e105 K => ?_
               cases b105
               · refine gn K rfl rfl rfl rfl fun _ K => gn K rfl rfl rfl rfl fun _ K => gn K rfl rfl rfl rfl fun _ K => ?_
                 refine gnT K rfl rfl rfl fun _ K => ?_
                 refine gnT K rfl rfl rfl fun _ K => ?_
                 refine gnT K rfl rfl rfl fun _ K => ?_
                 refine gnT K rfl rfl rfl fun _ K => ?_
                 refine gn K rfl rfl rfl rfl fun _ K => o1 K (os_pick rfl rfl rfl) rfl fun _ K => o1 K (os_move rfl) rfl fun _ K => gn K rfl rfl rfl rfl fun _ K => o1 K (os_pick rfl rfl rfl) rfl fun _ K => o1 K (os_assign rfl) rfl fun _ K => wr_nil ?_
                 show W _ _ _ _ _ _ _
                 refine w_ret ?_
                 refine ⟨.inr rfl, _, (res_one (rs_tmp K rfl)), ?_⟩
                 first
                  | rfl
                  | (exfalso; clear M B; simp_all; done)
               refine og K rfl rfl (os_move rfl) rfl fun _ K => og K rfl rfl (os_not rfl) rfl fun _ K => ?_
               refine oGB K rfl rfl (os_move rfl) rfl fun b108 _ e108 K => ?_
               cases b108
               · replace e108 : ((m.ok (m.run 0 wn))) = true := by first | simpa using e108 | (revert e108; cases ((m.ok (m.run 0 wn))) <;> simp)
                 refine og K rfl rfl (os_load rfl (M.load (k := 0) rfl (part_agg tk_api_Auto rfl))) rfl fun _ K => og K rfl rfl (os_move rfl) rfl fun _ K => og K rfl rfl (os_move rfl) rfl fun _ K => ?_
                 obtain ⟨v112, st112, ev112, bso, rfl, hso, q112⟩ := some22_ev (a := (⟨tn, acc, nx⟩ : Au)) M.fresh wf ((B.step M).rd0 hf hA) (hN.old hf fun c hc => (B.step M).old c hc id) hkt ((B.step M).rd0 hf hw) (by omega) hwkA
                 refine og K rfl rfl (os_call rfl ev112) rfl fun _ K => ?_
                 have hF3 := fun h => hso (hF2 h)
                 replace M := M.quiet q112
                 refine og K rfl rfl (os_pick rfl rfl rfl) rfl fun _ K => o1 K (os_pick rfl rfl rfl) rfl fun _ K => ?_
                 refine oB K (os_move rfl) rfl fun b115 _ e115 K => ?_
                 cases b115
                 · refine gn K rfl rfl rfl rfl fun _ K => o1 K (os_pick rfl rfl rfl) rfl fun _ K => o1 K (os_assign rfl) rfl fun _ K => wr_nil ?_
                   show W _ _ _ _ _ _ _
                   refine w_ret ?_
                   refine ⟨.inr rfl, _, (res_one (rs_tmp K rfl)), ?_⟩
                   first
                    | rfl
                    | (exfalso; clear M B; simp_all; done)
                 have ev116 := known22_ev
                 refine og K rfl rfl (os_call rfl (ev116 _)) rfl fun _ K => o1 K (os_pick rfl rfl rfl) rfl fun _ K => o1 K (os_assign rfl) rfl fun _ K => wr_nil ?_
                 show W _ _ _ _ _ _ _
                 refine w_ret ?_
                 refine ⟨.inr rfl, _, (res_one (rs_tmp K rfl)), ?_⟩
                 first
                  | rfl
                  | (exfalso; clear M B; simp_all; done)
               replace e108 : ((m.ok (m.run 0 wn))) = false := by first | simpa using e108 | (revert e108; cases ((m.ok (m.run 0 wn))) <;> simp)
               refine gn K rfl rfl rfl rfl fun _ K => gn K rfl rfl rfl rfl fun _ K => gn K rfl rfl rfl rfl fun _ K => gn K rfl rfl rfl rfl fun _ K => og K rfl rfl (os_pick rfl rfl rfl) rfl fun _ K => o1 K (os_pick rfl rfl rfl) rfl fun _ K => o1 K (os_move rfl) rfl fun _ K => ?_
               have ev116 := known22_ev
               refine og K rfl rfl (os_call rfl (ev116 _)) rfl fun _ K => o1 K (os_pick rfl rfl rfl) rfl fun _ K => o1 K (os_assign rfl) rfl fun _ K => wr_nil ?_
               show W _ _ _ _ _ _ _
               refine w_ret ?_
               refine ⟨.inr rfl, _, (res_one (rs_tmp K rfl)), ?_⟩
               first
                | rfl
                | (exfalso; clear M B; simp_all; done)
             replace e102 : (((⟨tn, acc, nx⟩ : Au).ok ((⟨tn, acc, nx⟩ : Au).run 0 (putW kk wn bs)))) = false := by first | simpa using e102 | (revert e102; cases (((⟨tn, acc, nx⟩ : Au).ok ((⟨tn, acc, nx⟩ : Au).run 0 (putW kk wn bs)))) <;> simp)
             refine gn K rfl rfl rfl rfl fun _ K => o1 K (os_pick rfl rfl rfl) rfl fun _ K => o1 K (os_move rfl) rfl fun _ K => og K rfl rfl (os_move rfl) rfl fun _ K => og K rfl rfl (os_not rfl) rfl fun _ K => ?_
             refine oGB K rfl rfl (os_move rfl) rfl fun b108 _ e108 K => ?_
             cases b108
             · replace e108 : ((m.ok (m.run 0 wn))) = true := by first | simpa using e108 | (revert e108; cases ((m.ok (m.run 0 wn))) <;> simp)
               refine og K rfl rfl (os_load rfl (M.load (k := 0) rfl (part_agg tk_api_Auto rfl))) rfl fun _ K => og K rfl rfl (os_move rfl) rfl fun _ K => og K rfl rfl (os_move rfl) rfl fun _ K => ?_
               obtain ⟨v112, st112, ev112, bso, rfl, hso, q112⟩ := some22_ev (a := (⟨tn, acc, nx⟩ : Au)) M.fresh wf ((B.step M).rd0 hf hA) (hN.old hf fun c hc => (B.step M).old c hc id) hkt ((B.step M).rd0 hf hw) (by omega) hwkA
               refine og K rfl rfl (os_call rfl ev112) rfl fun _ K => ?_
               have hF3 := fun h => hso (hF2 h)
               replace M := M.quiet q112
               refine og K rfl rfl (os_pick rfl rfl rfl) rfl fun _ K => o1 K (os_pick rfl rfl rfl) rfl fun _ K => ?_
               refine oB K (os_move rfl) rfl fun b115 _ e115 K => ?_
               cases b115
               · refine gn K rfl rfl rfl rfl fun _ K => o1 K (os_pick rfl rfl rfl) rfl fun _ K => o1 K (os_assign rfl) rfl fun _ K => wr_nil ?_
                 show W _ _ _ _ _ _ _
                 refine w_ret ?_
                 refine ⟨.inr rfl, _, (res_one (rs_tmp K rfl)), ?_⟩
                 first
                  | rfl
                  | (exfalso; clear M B; simp_all; done)
               have ev116 := known22_ev
               refine og K rfl rfl (os_call rfl (ev116 _)) rfl fun _ K => o1 K (os_pick rfl rfl rfl) rfl fun _ K => o1 K (os_assign rfl) rfl fun _ K => wr_nil ?_
               show W _ _ _ _ _ _ _
               refine w_ret ?_
               refine ⟨.inr rfl, _, (res_one (rs_tmp K rfl)), ?_⟩
               first
                | rfl
                | (exfalso; clear M B; simp_all; done)
             replace e108 : ((m.ok (m.run 0 wn))) = false := by first | simpa using e108 | (revert e108; cases ((m.ok (m.run 0 wn))) <;> simp)
             refine gn K rfl rfl rfl rfl fun _ K => gn K rfl rfl rfl rfl fun _ K => gn K rfl rfl rfl rfl fun _ K => gn K rfl rfl rfl rfl fun _ K => og K rfl rfl (os_pick rfl rfl rfl) rfl fun _ K => o1 K (os_pick rfl rfl rfl) rfl fun _ K => o1 K (os_move rfl) rfl fun _ K => ?_
             have ev116 := known22_ev
             refine og K rfl rfl (os_call rfl (ev116 _)) rfl fun _ K => o1 K (os_pick rfl rfl rfl) rfl fun _ K => o1 K (os_assign rfl) rfl fun _ K => wr_nil ?_
             show W _ _ _ _ _ _ _
             refine w_ret ?_
             refine ⟨.inr rfl, _, (res_one (rs_tmp K rfl)), ?_⟩
             first
              | rfl
              | (exfalso; clear M B; simp_all; done)
           replace e81 : ¬ (0 = 0) := by first | simpa using e81 | (intro hq; rw [decide_eq_true hq] at e81; cases e81)
           refine gn K rfl rfl rfl rfl fun _ K => gn K rfl rfl rfl rfl fun _ K => o1 K (os_pick rfl rfl rfl) rfl fun _ K => wr_nil ?_
           show W _ _ _ _ _ _ _
           refine w_cond (t := true) (K.opd rfl) (fun _ => ?_) (fun h => by cases h)
           refine w_seq <| w_region <| o1 K (os_assign rfl) rfl fun _ K => wr_nil ?_
           show W _ _ _ _ _ _ _
           refine w_ret ?_
           refine ⟨.inr rfl, _, (res_one (rs_tmp K rfl)), ?_⟩
           first
            | rfl
            | (exfalso; clear M B; simp_all; done)
         replace e40 := of_decide_eq_true e40
         refine gn K rfl rfl rfl rfl fun _ K => gn K rfl rfl rfl rfl fun _ K => gn K rfl rfl rfl rfl fun _ K => o1 K (os_pick rfl rfl rfl) rfl fun _ K => wr_nil ?_
         show W _ _ _ _ _ _ _
         refine w_cond (t := true) (K.opd rfl) (fun _ => ?_) (fun h => by cases h)
         refine w_seq <| w_region <| o1 K (os_assign rfl) rfl fun _ K => wr_nil ?_
         show W _ _ _ _ _ _ _
         refine w_ret ?_
         refine ⟨.inr rfl, _, (res_one (rs_tmp K rfl)), ?_⟩
         first
          | rfl
          | (exfalso; clear M B; simp_all; done)
       replace e35 := of_decide_eq_true e35
       refine gn K rfl rfl rfl rfl fun _ K => gn K rfl rfl rfl rfl fun _ K => gn K rfl rfl rfl rfl fun _ K => o1 K (os_pick rfl rfl rfl) rfl fun _ K => o1 K (os_move rfl) rfl fun _ K => gn K rfl rfl rfl rfl fun _ K => gn K rfl rfl rfl rfl fun _ K => gn K rfl rfl rfl rfl fun _ K => o1 K (os_pick rfl rfl rfl) rfl fun _ K => ?_
       refine wr_nil ?_
       show W _ _ _ _ _ _ _
       refine w_cond (t := true) (K.opd rfl) (fun _ => ?_) (fun h => by cases h)
       refine w_seq <| w_region <| o1 K (os_assign rfl) rfl fun _ K => wr_nil ?_
       show W _ _ _ _ _ _ _
       refine w_ret ?_
       refine ⟨.inr rfl, _, (res_one (rs_tmp K rfl)), ?_⟩
       first
        | rfl
        | (exfalso; clear M B; simp_all; done)
     replace e29 := of_decide_eq_true e29
     refine gn K rfl rfl rfl rfl fun _ K => gn K rfl rfl rfl rfl fun _ K => gn K rfl rfl rfl rfl fun _ K => gn K rfl rfl rfl rfl fun _ K => o1 K (os_pick rfl rfl rfl) rfl fun _ K => o1 K (os_move rfl) rfl fun _ K => gn K rfl rfl rfl rfl fun _ K => gn K rfl rfl rfl rfl fun _ K => gn K rfl rfl rfl rfl fun _ K => ?_
     refine o1 K (os_pick rfl rfl rfl) rfl fun _ K => o1 K (os_move rfl) rfl fun _ K => gn K rfl rfl rfl rfl fun _ K => gn K rfl rfl rfl rfl fun _ K => gn K rfl rfl rfl rfl fun _ K => o1 K (os_pick rfl rfl rfl) rfl fun _ K => wr_nil ?_
     show W _ _ _ _ _ _ _
     refine w_cond (t := true) (K.opd rfl) (fun _ => ?_) (fun h => by cases h)
     refine w_seq <| w_region <| o1 K (os_assign rfl) rfl fun _ K => wr_nil ?_
     show W _ _ _ _ _ _ _
     refine w_ret ?_
     refine ⟨.inr rfl, _, (res_one (rs_tmp K rfl)), ?_⟩
     first
      | rfl
      | (exfalso; clear M B; simp_all; done)
   replace e25 := of_decide_eq_true e25
   refine gn K rfl rfl rfl rfl fun _ K => gn K rfl rfl rfl rfl fun _ K => o1 K (os_pick rfl rfl rfl) rfl fun _ K => o1 K (os_move rfl) rfl fun _ K => gn K rfl rfl rfl rfl fun _ K => gn K rfl rfl rfl rfl fun _ K => gn K rfl rfl rfl rfl fun _ K => gn K rfl rfl rfl rfl fun _ K => o1 K (os_pick rfl rfl rfl) rfl fun _ K => ?_
   refine o1 K (os_move rfl) rfl fun _ K => gn K rfl rfl rfl rfl fun _ K => gn K rfl rfl rfl rfl fun _ K => gn K rfl rfl rfl rfl fun _ K => o1 K (os_pick rfl rfl rfl) rfl fun _ K => o1 K (os_move rfl) rfl fun _ K => gn K rfl rfl rfl rfl fun _ K => gn K rfl rfl rfl rfl fun _ K => gn K rfl rfl rfl rfl fun _ K => ?_
   refine o1 K (os_pick rfl rfl rfl) rfl fun _ K => wr_nil ?_
   show W _ _ _ _ _ _ _
   refine w_cond (t := true) (K.opd rfl) (fun _ => ?_) (fun h => by cases h)
   refine w_seq <| w_region <| o1 K (os_assign rfl) rfl fun _ K => wr_nil ?_
   show W _ _ _ _ _ _ _
   refine w_ret ?_
   refine ⟨.inr rfl, _, (res_one (rs_tmp K rfl)), ?_⟩
   first
    | rfl
    | (exfalso; clear M B; simp_all; done)
 replace e19 : (bm) = false := by first | simpa using e19 | (revert e19; cases (bm) <;> simp)
 refine gn K rfl rfl rfl rfl fun _ K => gn K rfl rfl rfl rfl fun _ K => gn K rfl rfl rfl rfl fun _ K => gn K rfl rfl rfl rfl fun _ K => o1 K (os_pick rfl rfl rfl) rfl fun _ K => o1 K (os_move rfl) rfl fun _ K => gn K rfl rfl rfl rfl fun _ K => gn K rfl rfl rfl rfl fun _ K => o1 K (os_pick rfl rfl rfl) rfl fun _ K => ?_
 refine o1 K (os_move rfl) rfl fun _ K => gn K rfl rfl rfl rfl fun _ K => gn K rfl rfl rfl rfl fun _ K => gn K rfl rfl rfl rfl fun _ K => gn K rfl rfl rfl rfl fun _ K => o1 K (os_pick rfl rfl rfl) rfl fun _ K => o1 K (os_move rfl) rfl fun _ K => gn K rfl rfl rfl rfl fun _ K => gn K rfl rfl rfl rfl fun _ K => ?_
 refine gn K rfl rfl rfl rfl fun _ K => o1 K (os_pick rfl rfl rfl) rfl fun _ K => o1 K (os_move rfl) rfl fun _ K => gn K rfl rfl rfl rfl fun _ K => gn K rfl rfl rfl rfl fun _ K => gn K rfl rfl rfl rfl fun _ K => o1 K (os_pick rfl rfl rfl) rfl fun _ K => wr_nil ?_
 show W _ _ _ _ _ _ _
 refine w_cond (t := true) (K.opd rfl) (fun _ => ?_) (fun h => by cases h)
 refine w_seq <| w_region <| o1 K (os_assign rfl) rfl fun _ K => wr_nil ?_
 show W _ _ _ _ _ _ _
 refine w_ret ?_
 refine ⟨.inr rfl, _, (res_one (rs_tmp K rfl)), ?_⟩
 first
  | rfl
  | (exfalso; clear M B; simp_all; done)
end Go.Proofs.YtiknomepbklibaaDoor
