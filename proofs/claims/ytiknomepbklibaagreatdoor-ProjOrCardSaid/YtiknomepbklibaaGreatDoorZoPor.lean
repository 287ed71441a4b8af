/-
  ProjOr.
-/
import Derived.Test.YtiknomepbklibaaGreatDoorZoR24P
import Derived.Test.YtiknomepbklibaaGreatDoorZoR24S
namespace Go.Proofs.YtiknomepbklibaaGreatDoor
open Go Go.RowKit
set_option linter.unusedVariables false
set_option linter.unusedSimpArgs false
set_option linter.unnecessarySimpa false
set_option maxRecDepth 100000
set_option maxHeartbeats 4000000

section
variable {st0 st : St} {X0 F : Fp} {M A : Rows2} {Os : List Ob} {a : Au} {ka kn : AV} {ls : List (List AV)} {vs : List AV} {mp l : Nat} {o : Bool}
theorem AuOff.old (hf : Fresh st0) (B : MemO st0 noX st M Os) (hmp : st0.n ≤ mp) (hA : RdR st0.h.get [] 1 (bC a.acc) ka) (hN : LsR st0.h.get a.nx kn ls) : AuOff st mp a ka kn ls := fun h' e => by
 have hO : ∀ c, c < st0.n → h' c = st0.h.get c := fun c hc => by
  have := B.le
  rw [e c (by omega) (by omega)]
  exact B.old c hc id
 exact ⟨hA.old hf hO, hN.old hf hO⟩
theorem MemO.auOff (B : MemO st0 X0 st M Os) {j k : Nat} (hj : Os[j]? = some (lsO F kn vs a.nx)) (hk : Os[k]? = some (mtO mp l o)) (hne : j ≠ k) (hA : Acc 0 1 A ka (bC a.acc)) (hs : ∀ x ∈ A, x ∈ M) : AuOff st mp a ka kn (vs.map fun v => [v]) := fun h' e => by
 refine ⟨AccAt.rd (F := fun _ => True) ⟨A, hA, fun c m l h => ⟨?_, trivial⟩⟩, LsAt.r ((B.at_ hj).frame fun c hc => e c (B.hi_ hj c hc) fun h => B.off2 hj hk hne c hc h)⟩
 have hr := B.row c m l (hs _ h)
 exact hr.frame (e c (hr.lt B.fresh) fun he => B.djM _ (List.mem_of_getElem? hk) c m l (hs _ h) he)
end

theorem projOr_ev {st : St} (hf : Fresh st) {t : Int} {acc : List Bool} {nx : List (List Int)} {ka kn : AV} {ls : List (List AV)} (hA : RdR st.h.get [] 1 (bC acc) ka) (hN : LsR st.h.get nx kn ls) {t2 : Int} {acc2 : List Bool} {nx2 : List (List Int)} {kb km : AV} {ls2 : List (List AV)} (hB : RdR st.h.get [] 1 (bC acc2) kb) (hM : LsR st.h.get nx2 km ls2) {k : Int} : ∃ v st', Ev Tryz.prog envP 3 [.agg [.int .i64 t, ka, kn], .agg [.int .i64 t2, kb, km], .int .i64 k] st v st' ∧ v = .bool true := by
 have hac := hA.cell; have hnc := hN.r.cell; have hbc := hB.cell; have hmc := hM.r.cell
 have hbnacc : (acc.length : Int) ≤ 9223372036854775807 := by have := hA.bnd; rw [bC_len] at this; exact this
 have hbnacc2 : (acc2.length : Int) ≤ 9223372036854775807 := by have := hB.bnd; rw [bC_len] at this; exact this
 have B := MemO.start hf
 refine ev_fn rfl Tryz.func3 rfl Tryz.ntmps3 rfl (by decide) (by simp) fun T hT => ?_
 have K : KnT [(0, _), (1, _), (2, _)] T := (.cons (hT 0) (.cons (hT 1) (.cons (hT 2) .nil)))
 have M := B.mem
 refine w_seq <| w_region ?_
 refine wr_box K M rfl (cl_cons rfl (cl_cons hA.cell (cl_cons hN.r.cell cl_nil))) (by decide) fun c3 _ _ K M => ?_
 refine wr_box K M rfl (cl_cons rfl (cl_cons hB.cell (cl_cons hM.r.cell cl_nil))) (by decide) fun c4 _ _ K M => ?_
 refine o1 K (os_assign rfl) rfl fun _ K => wr_nil ?_
 show W _ _ _ _ _ _ _
 refine w_seq <| w_seq <| w_region <| o1 K (os_load rfl (M.load (k := 1) rfl (part_agg tk_api_Auto rfl))) rfl fun _ K => ?_
 obtain ⟨v19, st19, ev19, bm1, rfl, hbm1, q19⟩ := may22_ev M.fresh ((B.step M).rd0 hf hA) (hN.old hf fun c hc => (B.step M).old c hc id)
 refine o1 K (os_call rfl ev19) rfl fun _ K => ?_
 replace M := M.quiet q19
 refine o1 K (os_not rfl) rfl fun _ K => ?_
 refine oB K (os_move rfl) rfl fun b21 _ e21 K => ?_
 cases b21
 ·replace e21 : (bm1) = true := by first | simpa using e21 | (revert e21; cases (bm1) <;> simp)
  refine og K rfl rfl (os_load rfl (M.load (k := 0) rfl (part_agg tk_api_Auto rfl))) rfl fun _ K => ?_
  obtain ⟨v23, st23, ev23, bm2, rfl, hbm2, q23⟩ := may22_ev M.fresh ((B.step M).rd0 hf hB) (hM.old hf fun c hc => (B.step M).old c hc id)
  refine og K rfl rfl (os_call rfl ev23) rfl fun _ K => ?_
  replace M := M.quiet q23
  refine og K rfl rfl (os_not rfl) rfl fun _ K => o1 K (os_pick rfl rfl rfl) rfl fun _ K => ?_
  refine oB K (os_move rfl) rfl fun b26 _ e26 K => ?_
  cases b26
  ·replace e26 : (bm2) = true := by first | simpa using e26 | (revert e26; cases (bm2) <;> simp)
   refine og K rfl rfl (os_fieldAddr fo_api_Auto_0 rfl) rfl fun _ K => og K rfl rfl (os_load rfl (M.load (k := 1) rfl (part_one tk_int rfl))) rfl fun _ K => og K rfl rfl (os_fieldAddr fo_api_Auto_0 rfl) rfl fun _ K => og K rfl rfl (os_load rfl (M.load (k := 0) rfl (part_one tk_int rfl))) rfl fun _ K => og K rfl rfl (os_neI rfl rfl) rfl fun _ K => o1 K (os_pick rfl rfl rfl) rfl fun _ K => ?_
   refine oB K (os_move rfl) rfl fun b33 _ e33 K => ?_
   cases b33
   ·replace e33 : (t = t2) := by first | simpa using e33 | (by_cases hq : (t = t2); exact hq; rw [decide_eq_false hq] at e33; cases e33)
    refine og K rfl rfl (os_move rfl) rfl fun _ K => og K rfl rfl (os_lss rfl rfl) rfl fun _ K => o1 K (os_pick rfl rfl rfl) rfl fun _ K => ?_
    refine oB K (os_move rfl) rfl fun b37 _ e37 K => ?_
    cases b37
    ·replace e37 := of_decide_eq_false e37
     refine og K rfl rfl (os_move rfl) rfl fun _ K => og K rfl rfl (os_fieldAddr fo_api_Auto_0 rfl) rfl fun _ K => og K rfl rfl (os_load rfl (M.load (k := 1) rfl (part_one tk_int rfl))) rfl fun _ K => og K rfl rfl (os_geq rfl rfl) rfl fun _ K => o1 K (os_pick rfl rfl rfl) rfl fun _ K => ?_
     refine oB K (os_move rfl) rfl fun b43 _ e43 K => ?_
     cases b43
     ·replace e43 := of_decide_eq_false e43
      refine og K rfl rfl (os_fieldAddr fo_api_Auto_1 rfl) rfl fun _ K => og K rfl rfl (os_load rfl (M.load (k := 1) rfl (part_one tk_S_bool rfl))) rfl fun _ K => og K rfl rfl (os_lenL un_S_bool rfl rfl (hA.len.trans (congrArg some (bC_len _)))) rfl fun _ K => og K rfl rfl (os_gtr rfl rfl) rfl fun _ K => o1 K (os_pick rfl rfl rfl) rfl fun _ K => ?_
      refine oB K (os_move rfl) rfl fun b49 _ e49 K => ?_
      cases b49
      ·replace e49 := of_decide_eq_false e49
       refine og K rfl rfl (os_fieldAddr fo_api_Auto_1 rfl) rfl fun _ K => og K rfl rfl (os_load rfl (M.load (k := 0) rfl (part_one tk_S_bool rfl))) rfl fun _ K => og K rfl rfl (os_lenL un_S_bool rfl rfl (hB.len.trans (congrArg some (bC_len _)))) rfl fun _ K => og K rfl rfl (os_gtr rfl rfl) rfl fun _ K => o1 K (os_pick rfl rfl rfl) rfl fun _ K => wr_nil ?_
       show W _ _ _ _ _ _ _
       refine w_cond (K.opd rfl) (fun h54 => ?_) (fun h54 => ?_)
       ·have hb54 := h54
        replace h54 := of_decide_eq_true h54
        refine w_seq <| w_region <| o1 K (os_assign rfl) rfl fun _ K => wr_nil ?_
        show W _ _ _ _ _ _ _
        refine w_ret ?_
        refine ⟨.inr rfl, _, (res_one (rs_tmp K rfl)), ?_⟩
        rfl
       have hb54 := h54
       replace h54 := of_decide_eq_false h54
       refine w_skip ?_
       show W _ _ _ _ _ _ _
       refine w_seq ?_
       obtain ⟨ht0, wf, h40⟩ := hbm1 (by simpa using e21)
       obtain ⟨ht02, wf2, h402⟩ := hbm2 (by simpa using e26)
       obtain rfl : t2 = t := by first | omega | simp_all
       obtain ⟨tn, rfl⟩ : ∃ m : Nat, t2 = ((m : Nat) : Int) := ⟨t2.toNat, by omega⟩
       rw [Int.toNat_natCast] at wf wf2
       obtain ⟨kk, rfl⟩ : ∃ m : Nat, k = ((m : Nat) : Int) := ⟨k.toNat, by omega⟩
       have hkt : kk < tn := by omega
       have htr : tn ≤ 6 := wf.tr
       have h5a : (⟨tn, acc, nx⟩ : Au).n ≤ 5 := by show acc.length ≤ 5; omega
       have h5b : (⟨tn, acc2, nx2⟩ : Au).n ≤ 5 := by show acc2.length ≤ 5; omega
       refine w_region ?_
       replace B := B.step M
       obtain ⟨v55, st55, ev55, mp1, rfl, hmp1, hmr1, q55⟩ := mNew_ev B.fresh 1000
       refine o1 K (os_call rfl ev55) rfl fun _ K => ?_
       replace B := B.new (o := mtO mp1 1000 false) q55 hmr1 (fun c hc => by rw [show c = mp1 from hc]; exact ⟨hmp1, hmr1.lt q55.fresh⟩)
       have M := B.mem
       refine o1 K (os_assign rfl) rfl fun _ K => wr_nil ?_
       show W _ _ _ _ _ _ _
       refine w_seq <| w_region <| o1 K (os_load rfl (M.load (k := 1) rfl (part_agg tk_api_Auto rfl))) rfl fun _ K => ?_
       replace B := B.step M
       have M := B.mem
       obtain ⟨v58, st58, ev58, dq1, F1, rfl, hD1, nf1, q58⟩ := of22_ev (a := (⟨tn, acc, nx⟩ : Au)) M.fresh wf ((B.step M).rd0 hf hA) (hN.old hf fun c hc => (B.step M).old c hc id)
       refine o1 K (os_call rfl ev58) rfl fun _ K => ?_
       replace B := (B.step M).new (o := dfaO F1 dq1 (⟨tn, acc, nx⟩ : Au)) q58 hD1.at_ nf1
       have M := B.mem
       refine o1 K (os_move rfl) rfl fun _ K => o1 K (os_move rfl) rfl fun _ K => ?_
       replace B := B.step M
       have B0 := B
       obtain ⟨v61, st61, ev61, ⟨ac1, hcl1, hPR1⟩, QP⟩ := pProject_ev B.fresh (B.dfa (k := 0) rfl) (show kk < (⟨tn, acc, nx⟩ : Au).tr from hkt) (show Row1 _ mp1 0 [.int .i64 ((1000 : Nat) : Int), .bool false] from B.at_ (k := 1) rfl) (fun h => B.off2 (j := 0) (k := 1) rfl rfl (by decide) mp1 h rfl) (by omega) (by omega)
       refine o1 K (os_call rfl ev61) rfl fun _ K => ?_
       obtain ⟨xv, ev, lx, rfl, hml, hPR1⟩ := hPR1.ex
       replace B := B.call (k := 1) (o' := mtO mp1 lx false) rfl QP hml (noMore fun c hc => by rw [show c = mp1 from hc]; exact hml.lt QP.fresh)
       obtain ⟨rfl, dx, Fx, Lx, x, rfl, hDx, nfx, htx, hMx, hlx⟩ := hPR1.resolve_right (fun h => by obtain ⟨_, _, L, h1, h2, h3⟩ := h; have := sets_few wf hkt h5a h2 h3; omega)
       have h4x := hMx.most
       replace B := B0.addNew (k := 1) (o := dfaO Fx dx x) (om' := mtO mp1 lx false) rfl rfl B hDx.at_ nfx
       have M := B.mem
       refine o1 K (os_move rfl) rfl fun _ K => o1 K (os_extract rfl rfl) rfl fun _ K => o1 K (os_extract rfl rfl) rfl fun _ K => o1 K (os_assign rfl) rfl fun _ K => o1 K (os_assign rfl) rfl fun _ K => wr_nil ?_
       show W _ _ _ _ _ _ _
       refine w_seq <| w_region <| o1 K (os_load rfl (M.load (k := 0) rfl (part_agg tk_api_Auto rfl))) rfl fun _ K => ?_
       replace B := B.step M
       have M := B.mem
       obtain ⟨v66, st66, ev66, dq2, F2, rfl, hD2, nf2, q66⟩ := of22_ev (a := (⟨tn, acc2, nx2⟩ : Au)) M.fresh wf2 ((B.step M).rd0 hf hB) (hM.old hf fun c hc => (B.step M).old c hc id)
       refine o1 K (os_call rfl ev66) rfl fun _ K => ?_
       replace B := (B.step M).new (o := dfaO F2 dq2 (⟨tn, acc2, nx2⟩ : Au)) q66 hD2.at_ nf2
       have M := B.mem
       refine o1 K (os_move rfl) rfl fun _ K => o1 K (os_move rfl) rfl fun _ K => ?_
       replace B := B.step M
       have B0 := B
       obtain ⟨v69, st69, ev69, ⟨ac2, hcl2, hPR2⟩, QP⟩ := pProject_ev B.fresh (B.dfa (k := 0) rfl) (show kk < (⟨tn, acc2, nx2⟩ : Au).tr from hkt) (show Row1 _ mp1 0 [.int .i64 ((lx : Nat) : Int), .bool false] from B.at_ (k := 3) rfl) (fun h => B.off2 (j := 0) (k := 3) rfl rfl (by decide) mp1 h rfl) (by omega) (by omega)
       refine o1 K (os_call rfl ev69) rfl fun _ K => ?_
       obtain ⟨xv, ev, ly, rfl, hml, hPR2⟩ := hPR2.ex
       replace B := B.call (k := 3) (o' := mtO mp1 ly false) rfl QP hml (noMore fun c hc => by rw [show c = mp1 from hc]; exact hml.lt QP.fresh)
       obtain ⟨rfl, dy, Fy, Ly, y, rfl, hDy, nfy, hty, hMy, hly⟩ := hPR2.resolve_right (fun h => by obtain ⟨_, _, L, h1, h2, h3⟩ := h; have := sets_few wf2 hkt h5b h2 h3; omega)
       have h4y := hMy.most
       replace B := B0.addNew (k := 3) (o := dfaO Fy dy y) (om' := mtO mp1 ly false) rfl rfl B hDy.at_ nfy
       have M := B.mem
       refine o1 K (os_move rfl) rfl fun _ K => o1 K (os_extract rfl rfl) rfl fun _ K => o1 K (os_extract rfl rfl) rfl fun _ K => o1 K (os_assign rfl) rfl fun _ K => o1 K (os_assign rfl) rfl fun _ K => wr_nil ?_
       show W _ _ _ _ _ _ _
       refine w_seq ?_
       refine w_drawI (l := [(2, 0), (0, 1), (1, 1), (3, 0), (4, 0), (5, 0), (7, 0), (8, 0), (6, 0), (9, 0)]) (by kernel_rfl) ?_
       have Mq := M
       replace B := B.step M
       obtain ⟨v75, st75, ev75, mf1, rfl, hmf1, hmfr1, q75⟩ := free22_ev B.fresh
       refine dA rfl K (os_call rfl ev75) rfl rfl fun _ K => ?_
       replace B := B.new (o := mtO mf1 1073741824 false) q75 hmfr1 (fun c hc => by rw [show c = mf1 from hc]; exact ⟨hmf1, hmfr1.lt q75.fresh⟩)
       have hmfo1 := (B.lo0 (k := 0) rfl mf1 rfl).1
       have M := B.mem
       have Mp := Mq
       have Mq := M
       refine wd_load1 rfl K rfl (M.load (k := 1) rfl (part_agg tk_api_Auto rfl)) (Mp.load (k := 1) rfl (part_agg tk_api_Auto rfl)) (eqV_agg (by simp [eqOk_str, eqOk_int, eqOk_bool, eqOk_len (hA.len.trans (congrArg some (bC_len _))), eqOk_len hN.len])) rfl (by decide) fun _ K => ?_
       refine wd_load1 rfl K rfl (M.load (k := 0) rfl (part_agg tk_api_Auto rfl)) (Mp.load (k := 0) rfl (part_agg tk_api_Auto rfl)) (eqV_agg (by simp [eqOk_str, eqOk_int, eqOk_bool, eqOk_len (hB.len.trans (congrArg some (bC_len _))), eqOk_len hM.len])) rfl (by decide) fun _ K => ?_
       replace B := B.step M
       obtain ⟨v76, st76, ev76, hBR, QB⟩ := r20both_ev (a := (⟨tn, acc, nx⟩ : Au)) (b := (⟨tn, acc2, nx2⟩ : Au)) B.fresh wf wf2 (AuOff.old hf B hmfo1 hA hN) (AuOff.old hf B hmfo1 hB hM) rfl (t := 14) (by decide) (show Row1 _ mf1 0 [.int .i64 ((1073741824 : Nat) : Int), .bool false] from B.at_ (k := 0) rfl) (by decide) (by decide)
       refine dA rfl K (os_call rfl ev76) rfl rfl fun _ K => ?_
       obtain ⟨tzo, kxo, kyo, ebo, acco, nxo, vso, Ao, Fo, l2o, rfl, hAo, B, hBo⟩ := B.both (k := 0) rfl QB hBR
       have hklo : slLen kyo = some nxo.length := LsAt.len (B.at_ (k := 0) rfl)
       have hkyo : isCell kyo = true := (LsAt.rd (B.at_ (k := 0) rfl)).cell
       replace B := B.cast (M' := ((c4, 0, [.int .i64 (((tn : Nat) : Int)), kb, km]) :: (c3, 0, [.int .i64 (((tn : Nat) : Int)), ka, kn]) :: (Ao ++ []))) (by first | (simp only [List.append_assoc, List.cons_append, List.nil_append, List.append_nil, List.set_cons_zero, List.set_cons_succ]; done) | (simp only [List.append_assoc, List.cons_append, List.nil_append, List.append_nil, List.set_cons_zero, List.set_cons_succ]; rfl))
       have M := B.mem
       have Mp := Mq
       have Mq := M
       refine d1 rfl K (os_move rfl) rfl rfl fun _ K => d1 rfl K (os_extract rfl rfl) rfl rfl fun _ K => ?_
       refine wd_alloc rfl K M ze_api_Auto (by decide) fun c12 _ _ K M => ?_
       refine wd_store (k := 0) rfl K M rfl rfl rfl sz_api_Auto rfl (cl_cons rfl (cl_cons hAo.cell (cl_cons hkyo cl_nil))) rfl fun _ M => ?_
       have Mp := Mq
       have Mq := M
       refine d1 rfl K (os_extract rfl rfl) rfl rfl fun _ K => d1 rfl K (os_assign rfl) rfl rfl fun _ K => wd_nil ?_
       show W _ _ _ _ _ _ _
       refine w_seq <| w_seq <| w_region <| o1 K (os_move rfl) rfl fun _ K => o1 K (os_neI rfl rfl) rfl fun _ K => wr_nil ?_
       show W _ _ _ _ _ _ _
       refine w_cond (K.opd rfl) (fun h80 => ?_) (fun h80 => ?_)
       ·have hb80 := h80
        replace h80 : ¬ (ebo = 0) := by first | simpa using h80 | (intro hq; rw [decide_eq_true hq] at h80; cases h80)
        refine w_seq <| w_region <| o1 K (os_assign rfl) rfl fun _ K => wr_nil ?_
        show W _ _ _ _ _ _ _
        refine w_ret ?_
        refine ⟨.inr rfl, _, (res_one (rs_tmp K rfl)), ?_⟩
        rfl
       have hb80 := h80
       replace h80 : (ebo = 0) := by first | simpa using h80 | (by_cases hq : (ebo = 0); exact hq; rw [decide_eq_false hq] at h80; cases h80)
       refine w_skip ?_
       show W _ _ _ _ _ _ _
       refine w_seq ?_
       obtain ⟨rfl, lo, rfl, hBA⟩ := hBo.resolve_right (fun h => by have := h.1; omega)
       have wfo := hBA.1.wf
       refine w_region <| o1 K (os_load rfl (M.load (k := 0) rfl (part_agg tk_api_Auto rfl))) rfl fun _ K => ?_
       replace B := B.step M
       have M := B.mem
       obtain ⟨v83, st83, ev83, dq3, F3, rfl, hD3, nf3, q83⟩ := of22_ev (a := (⟨tn, acco, nxo⟩ : Au)) M.fresh wfo (Mem.accR (L := [(c12, 0, [.int .i64 (((tn : Nat) : Int)), kxo, kyo]), (c4, 0, [.int .i64 (((tn : Nat) : Int)), kb, km]), (c3, 0, [.int .i64 (((tn : Nat) : Int)), ka, kn])]) (A := Ao) (B := []) M hAo) (LsAt.r ((B.step M).at_ (k := 0) rfl))
       refine o1 K (os_call rfl ev83) rfl fun _ K => ?_
       replace B := (B.step M).new (o := dfaO F3 dq3 (⟨tn, acco, nxo⟩ : Au)) q83 hD3.at_ nf3
       have M := B.mem
       refine o1 K (os_move rfl) rfl fun _ K => ?_
       replace B := B.step M
       obtain ⟨v85, st85, ev85, mp2, rfl, hmp2, hmr2, q85⟩ := mNew_ev B.fresh 1000
       refine o1 K (os_call rfl ev85) rfl fun _ K => ?_
       replace B := B.new (o := mtO mp2 1000 false) q85 hmr2 (fun c hc => by rw [show c = mp2 from hc]; exact ⟨hmp2, hmr2.lt q85.fresh⟩)
       have M := B.mem
       replace B := B.step M
       have B0 := B
       obtain ⟨v86, st86, ev86, ⟨ac3, hcl3, hPR3⟩, QP⟩ := pProject_ev B.fresh (B.dfa (k := 1) rfl) (show kk < (⟨tn, acco, nxo⟩ : Au).tr from hkt) (show Row1 _ mp2 0 [.int .i64 ((1000 : Nat) : Int), .bool false] from B.at_ (k := 0) rfl) (fun h => B.off2 (j := 1) (k := 0) rfl rfl (by decide) mp2 h rfl) (by omega) (by omega)
       refine o1 K (os_call rfl ev86) rfl fun _ K => ?_
       obtain ⟨xv, ev, lz, rfl, hml, hPR3⟩ := hPR3.ex
       replace B := B.call (k := 0) (o' := mtO mp2 lz false) rfl QP hml (noMore fun c hc => by rw [show c = mp2 from hc]; exact hml.lt QP.fresh)
       have hxc : isCell xv = true := by rcases hPR3 with ⟨_, _, _, _, _, h, _⟩ | ⟨_, h, _⟩ <;> subst h <;> rfl
       have M := B.mem
       refine o1 K (os_move rfl) rfl fun _ K => o1 K (os_extract rfl rfl) rfl fun _ K => o1 K (os_extract rfl rfl) rfl fun _ K => o1 K (os_assign rfl) rfl fun _ K => o1 K (os_assign rfl) rfl fun _ K => wr_nil ?_
       show W _ _ _ _ _ _ _
       refine w_seq <| w_seq <| w_region <| o1 K (os_move rfl) rfl fun _ K => o1 K (os_eqI rfl rfl) rfl fun _ K => wr_nil ?_
       show W _ _ _ _ _ _ _
       refine w_cond (K.opd rfl) (fun h90 => ?_) (fun h90 => ?_)
       ·have hb90 := h90
        replace h90 := of_decide_eq_true h90
        refine w_seq <| w_region ?_
        have ev91 := known22_ev
        refine o1 K (os_call rfl (ev91 _)) rfl fun _ K => o1 K (os_assign rfl) rfl fun _ K => wr_nil ?_
        show W _ _ _ _ _ _ _
        refine w_ret ?_
        refine ⟨.inr rfl, _, (res_one (rs_tmp K rfl)), ?_⟩
        rfl
       have hb90 := h90
       replace h90 := of_decide_eq_false h90
       refine w_skip ?_
       show W _ _ _ _ _ _ _
       refine w_seq <| w_seq ?_
       obtain ⟨rfl, dz, Fz, Lz, z, rfl, hDz, nfz, htz, hMz, _⟩ := hPR3.resolve_right (fun h => h90 h.1)
       replace B := B0.addNew (k := 0) (o := dfaO Fz dz z) (om' := mtO mp2 lz false) rfl rfl (B.step M) hDz.at_ nfz
       have M := B.mem
       refine w_region <| o1 K (os_move rfl) rfl fun _ K => o1 K (os_neI rfl rfl) rfl fun _ K => ?_
       refine oB K (os_move rfl) rfl fun b94 _ e94 K => ?_
       cases b94
       ·replace e94 : (0 = 0) := by first | simpa using e94 | (by_cases hq : (0 = 0); exact hq; rw [decide_eq_false hq] at e94; cases e94)
        refine og K rfl rfl (os_move rfl) rfl fun _ K => og K rfl rfl (os_neI rfl rfl) rfl fun _ K => o1 K (os_pick rfl rfl rfl) rfl fun _ K => ?_
        refine oB K (os_move rfl) rfl fun b98 _ e98 K => ?_
        cases b98
        ·replace e98 : (0 = 0) := by first | simpa using e98 | (by_cases hq : (0 = 0); exact hq; rw [decide_eq_false hq] at e98; cases e98)
         refine og K rfl rfl (os_move rfl) rfl fun _ K => og K rfl rfl (os_neI rfl rfl) rfl fun _ K => o1 K (os_pick rfl rfl rfl) rfl fun _ K => ?_
         refine oB K (os_move rfl) rfl fun b102 _ e102 K => ?_
         cases b102
         ·replace e102 : (0 = 0) := by first | simpa using e102 | (by_cases hq : (0 = 0); exact hq; rw [decide_eq_false hq] at e102; cases e102)
          refine og K rfl rfl (os_move rfl) rfl fun _ K => og K rfl rfl (os_eqPN un_P_auto_DFA rfl rfl) rfl fun _ K => o1 K (os_pick rfl rfl rfl) rfl fun _ K => o1 K (os_move rfl) rfl fun _ K => og K rfl rfl (os_move rfl) rfl fun _ K => og K rfl rfl (os_eqPN un_P_auto_DFA rfl rfl) rfl fun _ K => o1 K (os_pick rfl rfl rfl) rfl fun _ K => o1 K (os_move rfl) rfl fun _ K => og K rfl rfl (os_move rfl) rfl fun _ K => ?_
          refine og K rfl rfl (os_eqPN un_P_auto_DFA rfl rfl) rfl fun _ K => o1 K (os_pick rfl rfl rfl) rfl fun _ K => wr_nil ?_
          show W _ _ _ _ _ _ _
          refine w_cond (t := false) (K.opd rfl) (fun h => by cases h) (fun _ => ?_)
          refine w_skip ?_
          show W _ _ _ _ _ _ _
          refine w_seq <| w_region <| o1 K (os_move rfl) rfl fun _ K => ?_
          replace B := B.step M
          obtain ⟨v116, st116, ev116, nau116, q116⟩ := dTo_i B.fresh (B.dfa (k := 7) rfl)
          refine o1 K (os_call rfl ev116) rfl fun _ K => ?_
          obtain ⟨kax, knx, vsx, Ax, Fx, rfl, hAx, B⟩ := B.newAu q116 nau116
          replace B := B.cast (M' := ((c12, 0, [.int .i64 (((tn : Nat) : Int)), kxo, kyo]) :: (c4, 0, [.int .i64 (((tn : Nat) : Int)), kb, km]) :: (c3, 0, [.int .i64 (((tn : Nat) : Int)), ka, kn]) :: (Ao ++ (Ax ++ [])))) (by first | (simp only [List.append_assoc, List.cons_append, List.nil_append, List.append_nil, List.set_cons_zero, List.set_cons_succ]; done) | (simp only [List.append_assoc, List.cons_append, List.nil_append, List.append_nil, List.set_cons_zero, List.set_cons_succ]; rfl))
          have M := B.mem
          refine o1 K (os_move rfl) rfl fun _ K => ?_
          replace B := B.step M
          obtain ⟨v118, st118, ev118, nau118, q118⟩ := dTo_i B.fresh (B.dfa (k := 6) rfl)
          refine o1 K (os_call rfl ev118) rfl fun _ K => ?_
          obtain ⟨kay, kny, vsy, Ay, Fy, rfl, hAy, B⟩ := B.newAu q118 nau118
          replace B := B.cast (M' := ((c12, 0, [.int .i64 (((tn : Nat) : Int)), kxo, kyo]) :: (c4, 0, [.int .i64 (((tn : Nat) : Int)), kb, km]) :: (c3, 0, [.int .i64 (((tn : Nat) : Int)), ka, kn]) :: (Ao ++ (Ax ++ (Ay ++ []))))) (by first | (simp only [List.append_assoc, List.cons_append, List.nil_append, List.append_nil, List.set_cons_zero, List.set_cons_succ]; done) | (simp only [List.append_assoc, List.cons_append, List.nil_append, List.append_nil, List.set_cons_zero, List.set_cons_succ]; rfl))
          have M := B.mem
          replace B := B.step M
          obtain ⟨v119, st119, ev119, mf2, rfl, hmf2, hmfr2, q119⟩ := free22_ev B.fresh
          refine o1 K (os_call rfl ev119) rfl fun _ K => ?_
          replace B := B.new (o := mtO mf2 1073741824 false) q119 hmfr2 (fun c hc => by rw [show c = mf2 from hc]; exact ⟨hmf2, hmfr2.lt q119.fresh⟩)
          have hmfo2 := (B.lo0 (k := 0) rfl mf2 rfl).1
          have M := B.mem
          replace B := B.step M
          obtain ⟨v120, st120, ev120, hBR, QB⟩ := r20both_ev (a := x) (b := y) B.fresh hMx.wf hMy.wf (B.auOff (j := 2) (k := 0) rfl rfl (by decide) hAx (fun e h => by simp [h])) (B.auOff (j := 1) (k := 0) rfl rfl (by decide) hAy (fun e h => by simp [h])) (hty.trans htx.symm) (t := 14) (by decide) (show Row1 _ mf2 0 [.int .i64 ((1073741824 : Nat) : Int), .bool false] from B.at_ (k := 0) rfl) (by decide) (by decide)
          refine o1 K (os_call rfl ev120) rfl fun _ K => ?_
          obtain ⟨tzw, kxw, kyw, ebw, accw, nxw, vsw, Aw, Fw, l2w, rfl, hAw, B, hBw⟩ := B.both (k := 0) rfl QB hBR
          have hklw : slLen kyw = some nxw.length := LsAt.len (B.at_ (k := 0) rfl)
          have hkyw : isCell kyw = true := (LsAt.rd (B.at_ (k := 0) rfl)).cell
          obtain ⟨rfl, lw, rfl, hBW⟩ := hBw.resolve_right (fun h => by obtain ⟨_, lp, h1, h2, h3⟩ := h; have := or_small hBA rfl hkt hMx hMy hMz htx hty htz h2 h3; omega)
          replace B := B.cast (M' := ((c12, 0, [.int .i64 (((tn : Nat) : Int)), kxo, kyo]) :: (c4, 0, [.int .i64 (((tn : Nat) : Int)), kb, km]) :: (c3, 0, [.int .i64 (((tn : Nat) : Int)), ka, kn]) :: (Ao ++ (Ax ++ (Ay ++ (Aw ++ [])))))) (by first | (simp only [List.append_assoc, List.cons_append, List.nil_append, List.append_nil, List.set_cons_zero, List.set_cons_succ]; done) | (simp only [List.append_assoc, List.cons_append, List.nil_append, List.append_nil, List.set_cons_zero, List.set_cons_succ]; rfl))
          have M := B.mem
          refine o1 K (os_move rfl) rfl fun _ K => o1 K (os_extract rfl rfl) rfl fun _ K => o1 K (os_extract rfl rfl) rfl fun _ K => ?_
          refine wr_alloc K M ze_api_Auto (by decide) fun c16 _ _ K M => ?_
          refine wr_store (k := 0) K M rfl rfl rfl sz_api_Auto rfl (cl_cons rfl (cl_cons hAw.cell (cl_cons hkyw cl_nil))) rfl fun _ M => ?_
          refine o1 K (os_assign rfl) rfl fun _ K => wr_nil ?_
          show W _ _ _ _ _ _ _
          refine w_seq ?_
          refine w_drawI (l := [(0, 0), (1, 0), (2, 0), (4, 0), (5, 0), (3, 1), (6, 0), (7, 0), (8, 0), (9, 0), (10, 0), (11, 0)]) (by kernel_rfl) ?_
          have Mq := M
          refine d1 rfl K (os_move rfl) rfl rfl fun _ K => d1 rfl K (os_eqI rfl rfl) rfl rfl fun _ K => ?_
          refine dB rfl K (os_move rfl) rfl rfl fun b125 _ e125 K => ?_
          cases b125
          ·replace e125 := of_decide_eq_false e125
           exfalso; omega
          replace e125 := of_decide_eq_true e125
          refine dg rfl K rfl rfl (os_move rfl) rfl rfl fun _ K => ?_
          replace B := B.step M
          obtain ⟨v128, st128, ev128, nau128, q128⟩ := dTo_i B.fresh (B.dfa (k := 4) rfl)
          refine dga rfl K rfl rfl (os_call rfl ev128) rfl rfl fun _ K => ?_
          obtain ⟨kaz, knz, vsz, Az, Fz, rfl, hAz, B⟩ := B.newAu q128 nau128
          replace B := B.cast (M' := ((c16, 0, [.int .i64 (((x.tr : Nat) : Int)), kxw, kyw]) :: (c12, 0, [.int .i64 (((tn : Nat) : Int)), kxo, kyo]) :: (c4, 0, [.int .i64 (((tn : Nat) : Int)), kb, km]) :: (c3, 0, [.int .i64 (((tn : Nat) : Int)), ka, kn]) :: (Ao ++ (Ax ++ (Ay ++ (Aw ++ (Az ++ []))))))) (by first | (simp only [List.append_assoc, List.cons_append, List.nil_append, List.append_nil, List.set_cons_zero, List.set_cons_succ]; done) | (simp only [List.append_assoc, List.cons_append, List.nil_append, List.append_nil, List.set_cons_zero, List.set_cons_succ]; rfl))
          have M := B.mem
          have Mp := Mq
          have Mq := M
          refine wd_gload1 rfl K rfl rfl rfl (M.load (k := 0) rfl (part_agg tk_api_Auto rfl)) (Mp.load (k := 0) rfl (part_agg tk_api_Auto rfl)) (eqV_agg (by simp [eqOk_str, eqOk_int, eqOk_bool, eqOk_len hAw.len, eqOk_len hklw])) rfl (by decide) fun _ K => ?_
          obtain ⟨v129, st129, ev129, rfl, q129⟩ := same24_ev (a := ⟨x.tr, accw, nxw⟩) (b := z) M.fresh hBW.1.wf hMz.wf (Mem.accR (L := ((c16, 0, [.int .i64 (((x.tr : Nat) : Int)), kxw, kyw]) :: (c12, 0, [.int .i64 (((tn : Nat) : Int)), kxo, kyo]) :: (c4, 0, [.int .i64 (((tn : Nat) : Int)), kb, km]) :: (c3, 0, [.int .i64 (((tn : Nat) : Int)), ka, kn]) :: (Ao ++ (Ax ++ (Ay ++ []))))) (A := Aw) (B := (Az ++ [])) (Mem.cast (M := ((c16, 0, [.int .i64 (((x.tr : Nat) : Int)), kxw, kyw]) :: (c12, 0, [.int .i64 (((tn : Nat) : Int)), kxo, kyo]) :: (c4, 0, [.int .i64 (((tn : Nat) : Int)), kb, km]) :: (c3, 0, [.int .i64 (((tn : Nat) : Int)), ka, kn]) :: (Ao ++ (Ax ++ (Ay ++ (Aw ++ (Az ++ []))))))) (M' := ((c16, 0, [.int .i64 (((x.tr : Nat) : Int)), kxw, kyw]) :: (c12, 0, [.int .i64 (((tn : Nat) : Int)), kxo, kyo]) :: (c4, 0, [.int .i64 (((tn : Nat) : Int)), kb, km]) :: (c3, 0, [.int .i64 (((tn : Nat) : Int)), ka, kn]) :: (Ao ++ (Ax ++ (Ay ++ [])))) ++ (Aw ++ (Az ++ []))) M (by first | (simp only [List.append_assoc, List.cons_append, List.nil_append, List.append_nil, List.set_cons_zero, List.set_cons_succ]; done) | (simp only [List.append_assoc, List.cons_append, List.nil_append, List.append_nil, List.set_cons_zero, List.set_cons_succ]; rfl))) hAw) (LsAt.r ((B.step M).at_ (k := 1) rfl)) (Mem.accR (L := ((c16, 0, [.int .i64 (((x.tr : Nat) : Int)), kxw, kyw]) :: (c12, 0, [.int .i64 (((tn : Nat) : Int)), kxo, kyo]) :: (c4, 0, [.int .i64 (((tn : Nat) : Int)), kb, km]) :: (c3, 0, [.int .i64 (((tn : Nat) : Int)), ka, kn]) :: (Ao ++ (Ax ++ (Ay ++ (Aw ++ [])))))) (A := Az) (B := []) (Mem.cast (M := ((c16, 0, [.int .i64 (((x.tr : Nat) : Int)), kxw, kyw]) :: (c12, 0, [.int .i64 (((tn : Nat) : Int)), kxo, kyo]) :: (c4, 0, [.int .i64 (((tn : Nat) : Int)), kb, km]) :: (c3, 0, [.int .i64 (((tn : Nat) : Int)), ka, kn]) :: (Ao ++ (Ax ++ (Ay ++ (Aw ++ (Az ++ []))))))) (M' := ((c16, 0, [.int .i64 (((x.tr : Nat) : Int)), kxw, kyw]) :: (c12, 0, [.int .i64 (((tn : Nat) : Int)), kxo, kyo]) :: (c4, 0, [.int .i64 (((tn : Nat) : Int)), kb, km]) :: (c3, 0, [.int .i64 (((tn : Nat) : Int)), ka, kn]) :: (Ao ++ (Ax ++ (Ay ++ (Aw ++ []))))) ++ (Az ++ [])) M (by first | (simp only [List.append_assoc, List.cons_append, List.nil_append, List.append_nil, List.set_cons_zero, List.set_cons_succ]; done) | (simp only [List.append_assoc, List.cons_append, List.nil_append, List.append_nil, List.set_cons_zero, List.set_cons_succ]; rfl))) hAz) (LsAt.r ((B.step M).at_ (k := 0) rfl)) (htz.trans htx.symm) (or_like wf wf2 wfo hBA rfl hkt hcl1 hcl2 hcl3 hMx hMy hMz htx hty htz hBW)
          refine dga rfl K rfl rfl (os_call rfl ev129) rfl rfl fun _ K => ?_
          replace M := M.quiet q129
          have Mp := Mq
          have Mq := M
          refine d1 rfl K (os_pick rfl rfl rfl) rfl rfl fun _ K => d1 rfl K (os_move rfl) rfl rfl fun _ K => ?_
          have ev132 := known22_ev
          refine dga rfl K rfl rfl (os_call rfl (ev132 _)) rfl rfl fun _ K => ?_
          have Mp := Mq
          have Mq := M
          refine d1 rfl K (os_pick rfl rfl rfl) rfl rfl fun _ K => d1 rfl K (os_assign rfl) rfl rfl fun _ K => wd_nil ?_
          show W _ _ _ _ _ _ _
          refine w_ret ?_
          refine ⟨.inr rfl, _, (res_one (rs_tmp K rfl)), ?_⟩
          rfl
         replace e102 : ¬ (0 = 0) := by first | simpa using e102 | (intro hq; rw [decide_eq_true hq] at e102; cases e102)
         exfalso; omega
        replace e98 : ¬ (0 = 0) := by first | simpa using e98 | (intro hq; rw [decide_eq_true hq] at e98; cases e98)
        exfalso; omega
       replace e94 : ¬ (0 = 0) := by first | simpa using e94 | (intro hq; rw [decide_eq_true hq] at e94; cases e94)
       exfalso; omega
      replace e49 := of_decide_eq_true e49
      refine gn K rfl rfl rfl rfl fun _ K => gn K rfl rfl rfl rfl fun _ K => gn K rfl rfl rfl rfl fun _ K => gn K rfl rfl rfl rfl fun _ K => o1 K (os_pick rfl rfl rfl) rfl fun _ K => wr_nil ?_
      show W _ _ _ _ _ _ _
      refine w_cond (t := true) (K.opd rfl) (fun _ => ?_) (fun h => by cases h)
      refine w_seq <| w_region <| o1 K (os_assign rfl) rfl fun _ K => wr_nil ?_
      show W _ _ _ _ _ _ _
      refine w_ret ?_
      refine ⟨.inr rfl, _, (res_one (rs_tmp K rfl)), ?_⟩
      rfl
     replace e43 := of_decide_eq_true e43
     refine gn K rfl rfl rfl rfl fun _ K => gn K rfl rfl rfl rfl fun _ K => gn K rfl rfl rfl rfl fun _ K => gn K rfl rfl rfl rfl fun _ K => o1 K (os_pick rfl rfl rfl) rfl fun _ K => o1 K (os_move rfl) rfl fun _ K => gn K rfl rfl rfl rfl fun _ K => gn K rfl rfl rfl rfl fun _ K => gn K rfl rfl rfl rfl fun _ K => ?_
     refine gn K rfl rfl rfl rfl fun _ K => o1 K (os_pick rfl rfl rfl) rfl fun _ K => wr_nil ?_
     show W _ _ _ _ _ _ _
     refine w_cond (t := true) (K.opd rfl) (fun _ => ?_) (fun h => by cases h)
     refine w_seq <| w_region <| o1 K (os_assign rfl) rfl fun _ K => wr_nil ?_
     show W _ _ _ _ _ _ _
     refine w_ret ?_
     refine ⟨.inr rfl, _, (res_one (rs_tmp K rfl)), ?_⟩
     rfl
    replace e37 := of_decide_eq_true e37
    refine gn K rfl rfl rfl rfl fun _ K => gn K rfl rfl rfl rfl fun _ K => gn K rfl rfl rfl rfl fun _ K => gn K rfl rfl rfl rfl fun _ K => o1 K (os_pick rfl rfl rfl) rfl fun _ K => o1 K (os_move rfl) rfl fun _ K => gn K rfl rfl rfl rfl fun _ K => gn K rfl rfl rfl rfl fun _ K => gn K rfl rfl rfl rfl fun _ K => ?_
    refine gn K rfl rfl rfl rfl fun _ K => o1 K (os_pick rfl rfl rfl) rfl fun _ K => o1 K (os_move rfl) rfl fun _ K => gn K rfl rfl rfl rfl fun _ K => gn K rfl rfl rfl rfl fun _ K => gn K rfl rfl rfl rfl fun _ K => gn K rfl rfl rfl rfl fun _ K => o1 K (os_pick rfl rfl rfl) rfl fun _ K => wr_nil ?_
    show W _ _ _ _ _ _ _
    refine w_cond (t := true) (K.opd rfl) (fun _ => ?_) (fun h => by cases h)
    refine w_seq <| w_region <| o1 K (os_assign rfl) rfl fun _ K => wr_nil ?_
    show W _ _ _ _ _ _ _
    refine w_ret ?_
    refine ⟨.inr rfl, _, (res_one (rs_tmp K rfl)), ?_⟩
    rfl
   replace e33 : ¬ (t = t2) := by first | simpa using e33 | (intro hq; rw [decide_eq_true hq] at e33; cases e33)
   refine gn K rfl rfl rfl rfl fun _ K => gn K rfl rfl rfl rfl fun _ K => o1 K (os_pick rfl rfl rfl) rfl fun _ K => o1 K (os_move rfl) rfl fun _ K => gn K rfl rfl rfl rfl fun _ K => gn K rfl rfl rfl rfl fun _ K => gn K rfl rfl rfl rfl fun _ K => gn K rfl rfl rfl rfl fun _ K => o1 K (os_pick rfl rfl rfl) rfl fun _ K => ?_
   refine o1 K (os_move rfl) rfl fun _ K => gn K rfl rfl rfl rfl fun _ K => gn K rfl rfl rfl rfl fun _ K => gn K rfl rfl rfl rfl fun _ K => gn K rfl rfl rfl rfl fun _ K => o1 K (os_pick rfl rfl rfl) rfl fun _ K => o1 K (os_move rfl) rfl fun _ K => gn K rfl rfl rfl rfl fun _ K => gn K rfl rfl rfl rfl fun _ K => ?_
   refine gn K rfl rfl rfl rfl fun _ K => gn K rfl rfl rfl rfl fun _ K => o1 K (os_pick rfl rfl rfl) rfl fun _ K => wr_nil ?_
   show W _ _ _ _ _ _ _
   refine w_cond (t := true) (K.opd rfl) (fun _ => ?_) (fun h => by cases h)
   refine w_seq <| w_region <| o1 K (os_assign rfl) rfl fun _ K => wr_nil ?_
   show W _ _ _ _ _ _ _
   refine w_ret ?_
   refine ⟨.inr rfl, _, (res_one (rs_tmp K rfl)), ?_⟩
   rfl
  replace e26 : (bm2) = false := by first | simpa using e26 | (revert e26; cases (bm2) <;> simp)
  refine gn K rfl rfl rfl rfl fun _ K => gn K rfl rfl rfl rfl fun _ K => gn K rfl rfl rfl rfl fun _ K => gn K rfl rfl rfl rfl fun _ K => gn K rfl rfl rfl rfl fun _ K => o1 K (os_pick rfl rfl rfl) rfl fun _ K => o1 K (os_move rfl) rfl fun _ K => gn K rfl rfl rfl rfl fun _ K => gn K rfl rfl rfl rfl fun _ K => ?_
  refine o1 K (os_pick rfl rfl rfl) rfl fun _ K => o1 K (os_move rfl) rfl fun _ K => gn K rfl rfl rfl rfl fun _ K => gn K rfl rfl rfl rfl fun _ K => gn K rfl rfl rfl rfl fun _ K => gn K rfl rfl rfl rfl fun _ K => o1 K (os_pick rfl rfl rfl) rfl fun _ K => o1 K (os_move rfl) rfl fun _ K => gn K rfl rfl rfl rfl fun _ K => ?_
  refine gn K rfl rfl rfl rfl fun _ K => gn K rfl rfl rfl rfl fun _ K => gn K rfl rfl rfl rfl fun _ K => o1 K (os_pick rfl rfl rfl) rfl fun _ K => o1 K (os_move rfl) rfl fun _ K => gn K rfl rfl rfl rfl fun _ K => gn K rfl rfl rfl rfl fun _ K => gn K rfl rfl rfl rfl fun _ K => gn K rfl rfl rfl rfl fun _ K => ?_
  refine o1 K (os_pick rfl rfl rfl) rfl fun _ K => wr_nil ?_
  show W _ _ _ _ _ _ _
  refine w_cond (t := true) (K.opd rfl) (fun _ => ?_) (fun h => by cases h)
  refine w_seq <| w_region <| o1 K (os_assign rfl) rfl fun _ K => wr_nil ?_
  show W _ _ _ _ _ _ _
  refine w_ret ?_
  refine ⟨.inr rfl, _, (res_one (rs_tmp K rfl)), ?_⟩
  rfl
 replace e21 : (bm1) = false := by first | simpa using e21 | (revert e21; cases (bm1) <;> simp)
 refine gn K rfl rfl rfl rfl fun _ K => gn K rfl rfl rfl rfl fun _ K => gn K rfl rfl rfl rfl fun _ K => o1 K (os_pick rfl rfl rfl) rfl fun _ K => o1 K (os_move rfl) rfl fun _ K => gn K rfl rfl rfl rfl fun _ K => gn K rfl rfl rfl rfl fun _ K => gn K rfl rfl rfl rfl fun _ K => gn K rfl rfl rfl rfl fun _ K => ?_
 refine gn K rfl rfl rfl rfl fun _ K => o1 K (os_pick rfl rfl rfl) rfl fun _ K => o1 K (os_move rfl) rfl fun _ K => gn K rfl rfl rfl rfl fun _ K => gn K rfl rfl rfl rfl fun _ K => o1 K (os_pick rfl rfl rfl) rfl fun _ K => o1 K (os_move rfl) rfl fun _ K => gn K rfl rfl rfl rfl fun _ K => gn K rfl rfl rfl rfl fun _ K => ?_
 refine gn K rfl rfl rfl rfl fun _ K => gn K rfl rfl rfl rfl fun _ K => o1 K (os_pick rfl rfl rfl) rfl fun _ K => o1 K (os_move rfl) rfl fun _ K => gn K rfl rfl rfl rfl fun _ K => gn K rfl rfl rfl rfl fun _ K => gn K rfl rfl rfl rfl fun _ K => gn K rfl rfl rfl rfl fun _ K => o1 K (os_pick rfl rfl rfl) rfl fun _ K => ?_
 refine o1 K (os_move rfl) rfl fun _ K => gn K rfl rfl rfl rfl fun _ K => gn K rfl rfl rfl rfl fun _ K => gn K rfl rfl rfl rfl fun _ K => gn K rfl rfl rfl rfl fun _ K => o1 K (os_pick rfl rfl rfl) rfl fun _ K => wr_nil ?_
 show W _ _ _ _ _ _ _
 refine w_cond (t := true) (K.opd rfl) (fun _ => ?_) (fun h => by cases h)
 refine w_seq <| w_region <| o1 K (os_assign rfl) rfl fun _ K => wr_nil ?_
 show W _ _ _ _ _ _ _
 refine w_ret ?_
 refine ⟨.inr rfl, _, (res_one (rs_tmp K rfl)), ?_⟩
 rfl
end Go.Proofs.YtiknomepbklibaaGreatDoor
