/-
  Automata: looked at.
-/
import Derived.Test.YtiknomepbklibaaGreatDoorZoAuB
namespace Go.Proofs.YtiknomepbklibaaGreatDoor
open Go Go.RowKit
set_option linter.unusedVariables false
set_option linter.unusedSimpArgs false
set_option linter.unnecessarySimpa false
set_option maxRecDepth 100000
set_option maxHeartbeats 2000000

theorem zN_get {l : List Nat} {i r : Nat} (h : l[i]? = some r) : (zC (zN l))[i]? = some [.int .i64 ((r : Nat) : Int)] := zC_get (by rw [List.getElem?_map, h]; rfl)
theorem Au.ok_at {a : Au} {s : Nat} {b : Bool} (h : a.acc[s]? = some b) : a.ok s = b := by unfold Au.ok; rw [h]; rfl
/-- An automaton, its parts by name. -/
structure DfaX (st : St) (F : Fp) (dp : Nat) (a : Au) (ka kr : AV) (sp : Nat) (F1 : Fp) (S : Sto) (roots : List Nat) : Prop where
  row : Row1 st.h.get dp 0 [ka, kr, .ptr sp 0 0]
  dpF : F dp
  acc : RdR st.h.get [] 1 (bC a.acc) ka
  accF : InF F ka
  rt : RdR st.h.get [] 1 (zC (zN roots)) kr
  rtF : InF F kr
  sto : StoAt st.h.get F1 sp a.tr S
  sub : ∀ c, F1 c → F c
  wfS : WFS a.tr S
  wf : WFA a
  len : roots.length = a.n
  rts : ∀ (s r : Nat), roots[s]? = some r → r < S.length ∧ a.nx[s]? = some (rowB a.tr S r)
  hi : ∀ c, F c → c < st.n
theorem DfaI.x {st : St} {F : Fp} {dp : Nat} {a : Au} (hD : DfaI st F dp a) : ∃ ka kr sp F1 S roots, DfaX st F dp a ka kr sp F1 S roots := by
 obtain ⟨ka, kr, sp, F1, S, roots, h1, h2, h3, h4, h5, h6, h7, h8, h9, h10, h11, h12⟩ := hD.at_
 exact ⟨ka, kr, sp, F1, S, roots, h1, h2, h3, h4, h5, h6, h7, h8, h9, h10, h11, h12, hD.hi⟩
section
variable {st st' : St} {F : Fp} {dp : Nat} {a : Au} {ka kr : AV} {sp : Nat} {F1 : Fp} {S : Sto} {roots : List Nat}
theorem DfaX.q (hX : DfaX st F dp a ka kr sp F1 S roots) (q : Qt st st') : DfaX st' F dp a ka kr sp F1 S roots := by
 have e : ∀ c, F c → st'.h.get c = st.h.get c := fun c hc => q.old c (hX.hi c hc)
 exact ⟨hX.row.frame (e dp hX.dpF), hX.dpF, hX.acc.frame fun c m o n y e' => e c (hX.accF c m o n y e'), hX.accF, hX.rt.frame fun c m o n y e' => e c (hX.rtF c m o n y e'), hX.rtF, hX.sto.frame fun c hc => e c (hX.sub c hc), hX.sub, hX.wfS, hX.wf, hX.len, hX.rts, fun c hc => Nat.lt_of_lt_of_le (hX.hi c hc) q.le⟩
theorem DfaX.i (hX : DfaX st F dp a ka kr sp F1 S roots) : StoI st F1 sp a.tr S := ⟨hX.sto, fun c hc => hX.hi c (hX.sub c hc)⟩
end
theorem dStore_ev {st : St} (hf : Fresh st) {F : Fp} {dp : Nat} {a : Au} {ka kr : AV} {sp : Nat} {F1 : Fp} {S : Sto} {roots : List Nat} (hX : DfaX st F dp a ka kr sp F1 S roots)  : ∃ v st', Ev Tryz.prog envP 63 [.ptr dp 0 0] st v st' ∧ v = .ptr sp 0 0 ∧ Qt st st' := by
 have wf := hX.wf; have hen : a.n = a.acc.length := rfl; have hrl := hX.len
 refine ev_fn rfl Tryz.func63 rfl Tryz.ntmps63 rfl (by decide) (by simp) fun T hT => ?_
 have K : KnT [(0, _)] T := (.cons (hT 0) .nil)
 have M := Mem.start hf
 refine w_seq <| w_region <| o1 K (os_assign rfl) rfl fun _ K => wr_nil ?_
 show W _ _ _ _ _ _ _
 refine w_seq <| w_seq <| w_region <| o1 K (os_move rfl) rfl fun _ K => o1 K (os_eqPN un_P_auto_DFA rfl rfl) rfl fun _ K => wr_nil ?_
 show W _ _ _ _ _ _ _
 refine w_cond (t := false) (K.opd rfl) (fun h => by cases h) (fun _ => ?_)
 refine w_skip ?_
 show W _ _ _ _ _ _ _
 refine w_seq <| w_region <| o1 K (os_move rfl) rfl fun _ K => o1 K (os_nil rfl rfl) rfl fun _ K => o1 K (os_fieldAddr fo_auto_DFA_2 rfl) rfl fun _ K => o1 K (os_load rfl (ld_row (M.rowX (by simp) hX.row.rowV) (part_one tk_P_bdd_Store rfl))) rfl fun _ K => o1 K (os_assign rfl) rfl fun _ K => wr_nil ?_
 show W _ _ _ _ _ _ _
 refine w_ret ?_
 refine ⟨.inr rfl, _, (res_one (rs_tmp K rfl)), ?_⟩
 exact ⟨rfl, M.qt⟩

theorem dTracks_ev {st : St} (hf : Fresh st) {F : Fp} {dp : Nat} {a : Au} {ka kr : AV} {sp : Nat} {F1 : Fp} {S : Sto} {roots : List Nat} (hX : DfaX st F dp a ka kr sp F1 S roots)  : ∃ v st', Ev Tryz.prog envP 38 [.ptr dp 0 0] st v st' ∧ v = .int .i64 ((a.tr : Nat) : Int) ∧ Qt st st' := by
 have wf := hX.wf; have hen : a.n = a.acc.length := rfl; have hrl := hX.len
 refine ev_fn rfl Tryz.func38 rfl Tryz.ntmps38 rfl (by decide) (by simp) fun T hT => ?_
 have K : KnT [(0, _)] T := (.cons (hT 0) .nil)
 have M := Mem.start hf
 refine w_seq <| w_region <| o1 K (os_assign rfl) rfl fun _ K => wr_nil ?_
 show W _ _ _ _ _ _ _
 refine w_seq <| w_region <| o1 K (os_move rfl) rfl fun _ K => ?_
 obtain ⟨v4, st4, ev4, rfl, q4⟩ := dStore_ev M.fresh (hX.q M.qt)
 refine o1 K (os_call rfl ev4) rfl fun _ K => ?_
 replace M := M.quiet q4
 obtain ⟨v5, st5, ev5, rfl, q5⟩ := bTracks_ev M.fresh (hX.q M.qt).i
 refine o1 K (os_call rfl ev5) rfl fun _ K => ?_
 replace M := M.quiet q5
 refine o1 K (os_assign rfl) rfl fun _ K => wr_nil ?_
 show W _ _ _ _ _ _ _
 refine w_ret ?_
 refine ⟨.inr rfl, _, (res_one (rs_tmp K rfl)), ?_⟩
 exact ⟨rfl, M.qt⟩

theorem dTracks_i {st : St} (hf : Fresh st) {F : Fp} {dp : Nat} {a : Au} (hD : DfaI st F dp a)  : ∃ v st', Ev Tryz.prog envP 38 [.ptr dp 0 0] st v st' ∧ v = .int .i64 ((a.tr : Nat) : Int) ∧ Qt st st' := by
 obtain ⟨_, _, _, _, _, _, hX⟩ := hD.x
 exact dTracks_ev hf hX

theorem dStates_ev {st : St} (hf : Fresh st) {F : Fp} {dp : Nat} {a : Au} {ka kr : AV} {sp : Nat} {F1 : Fp} {S : Sto} {roots : List Nat} (hX : DfaX st F dp a ka kr sp F1 S roots)  : ∃ v st', Ev Tryz.prog envP 25 [.ptr dp 0 0] st v st' ∧ v = .int .i64 ((a.n : Nat) : Int) ∧ Qt st st' := by
 have wf := hX.wf; have hen : a.n = a.acc.length := rfl; have hrl := hX.len
 refine ev_fn rfl Tryz.func25 rfl Tryz.ntmps25 rfl (by decide) (by simp) fun T hT => ?_
 have K : KnT [(0, _)] T := (.cons (hT 0) .nil)
 have M := Mem.start hf
 refine w_seq <| w_region <| o1 K (os_assign rfl) rfl fun _ K => wr_nil ?_
 show W _ _ _ _ _ _ _
 refine w_seq <| w_seq <| w_region <| o1 K (os_move rfl) rfl fun _ K => o1 K (os_eqPN un_P_auto_DFA rfl rfl) rfl fun _ K => wr_nil ?_
 show W _ _ _ _ _ _ _
 refine w_cond (t := false) (K.opd rfl) (fun h => by cases h) (fun _ => ?_)
 refine w_skip ?_
 show W _ _ _ _ _ _ _
 refine w_seq <| w_region <| o1 K (os_move rfl) rfl fun _ K => o1 K (os_nil rfl rfl) rfl fun _ K => o1 K (os_fieldAddr fo_auto_DFA_0 rfl) rfl fun _ K => o1 K (os_load rfl (ld_row (M.rowX (by simp) hX.row.rowV) (part_one tk_S_bool rfl))) rfl fun _ K => o1 K (os_lenL un_S_bool rfl rfl (hX.acc.len.trans (congrArg some (bC_len _)))) rfl fun _ K => o1 K (os_assign rfl) rfl fun _ K => wr_nil ?_
 show W _ _ _ _ _ _ _
 refine w_ret ?_
 refine ⟨.inr rfl, _, (res_one (rs_tmp K rfl)), ?_⟩
 exact ⟨rfl, M.qt⟩

theorem dIs_ev {st : St} (hf : Fresh st) {F : Fp} {dp : Nat} {a : Au} {ka kr : AV} {sp : Nat} {F1 : Fp} {S : Sto} {roots : List Nat} (hX : DfaX st F dp a ka kr sp F1 S roots) {s : Nat} (hs : s < a.n) : ∃ v st', Ev Tryz.prog envP 55 [.ptr dp 0 0, .int .i64 (((s : Nat) : Int))] st v st' ∧ v = .bool true ∧ Qt st st' := by
 have wf := hX.wf; have hen : a.n = a.acc.length := rfl; have hrl := hX.len
 refine ev_fn rfl Tryz.func55 rfl Tryz.ntmps55 rfl (by decide) (by simp) fun T hT => ?_
 have K : KnT [(0, _), (1, _)] T := (.cons (hT 0) (.cons (hT 1) .nil))
 have M := Mem.start hf
 refine w_seq <| w_region <| o1 K (os_assign rfl) rfl fun _ K => wr_nil ?_
 show W _ _ _ _ _ _ _
 refine w_seq <| w_region <| o1 K (os_move rfl) rfl fun _ K => o1 K (os_geq rfl rfl) rfl fun _ K => ?_
 refine oB K (os_move rfl) rfl fun b7 _ e7 K => ?_
 cases b7
 ·replace e7 := of_decide_eq_false e7
  exfalso; omega
 replace e7 := of_decide_eq_true e7
 refine og K rfl rfl (os_move rfl) rfl fun _ K => og K rfl rfl (os_move rfl) rfl fun _ K => ?_
 obtain ⟨v10, st10, ev10, rfl, q10⟩ := dStates_ev M.fresh (hX.q M.qt)
 refine og K rfl rfl (os_call rfl ev10) rfl fun _ K => ?_
 replace M := M.quiet q10
 refine og K rfl rfl (os_lss rfl rfl) rfl fun _ K => o1 K (os_pick rfl rfl rfl) rfl fun _ K => o1 K (os_assign rfl) rfl fun _ K => wr_nil ?_
 show W _ _ _ _ _ _ _
 refine w_ret ?_
 refine ⟨.inr rfl, _, (res_one (rs_tmp K rfl)), ?_⟩
 exact ⟨congrArg AV.bool (decide_eq_true (by omega)), M.qt⟩

theorem dAccepts_ev {st : St} (hf : Fresh st) {F : Fp} {dp : Nat} {a : Au} {ka kr : AV} {sp : Nat} {F1 : Fp} {S : Sto} {roots : List Nat} (hX : DfaX st F dp a ka kr sp F1 S roots) {s : Nat} (hs : s < a.n) : ∃ v st', Ev Tryz.prog envP 26 [.ptr dp 0 0, .int .i64 (((s : Nat) : Int))] st v st' ∧ v = .bool (a.ok s) ∧ Qt st st' := by
 have wf := hX.wf; have hen : a.n = a.acc.length := rfl; have hrl := hX.len
 have hsa : s < a.acc.length := hs
 refine ev_fn rfl Tryz.func26 rfl Tryz.ntmps26 rfl (by decide) (by simp) fun T hT => ?_
 have K : KnT [(0, _), (1, _)] T := (.cons (hT 0) (.cons (hT 1) .nil))
 have M := Mem.start hf
 refine w_seq <| w_region <| o1 K (os_assign rfl) rfl fun _ K => wr_nil ?_
 show W _ _ _ _ _ _ _
 refine w_seq <| w_region <| o1 K (os_move rfl) rfl fun _ K => o1 K (os_move rfl) rfl fun _ K => ?_
 obtain ⟨v7, st7, ev7, rfl, q7⟩ := dIs_ev M.fresh (hX.q M.qt) hs
 refine o1 K (os_call rfl ev7) rfl fun _ K => ?_
 replace M := M.quiet q7
 refine o1 K (os_move rfl) rfl fun _ K => og K rfl rfl (os_move rfl) rfl fun _ K => og K rfl rfl (os_nil rfl rfl) rfl fun _ K => og K rfl rfl (os_fieldAddr fo_auto_DFA_0 rfl) rfl fun _ K => og K rfl rfl (os_load rfl (ld_row (M.rowX (by simp) hX.row.rowV) (part_one tk_S_bool rfl))) rfl fun _ K => og K rfl rfl (os_move rfl) rfl fun _ K => ?_
 obtain ⟨y14, hi14⟩ : ∃ x, a.acc[s]? = some x := ⟨_, List.getElem?_eq_getElem (by omega)⟩
 obtain ⟨x14, m14, f14, q14, _, la14, lo14, lp14⟩ := (RdR.mem M hX.acc (by simp)).load (i := s) (cs := _) (bC_get hi14)
 refine og K rfl rfl (os_indexAddr (j := s) el_S_bool (congrArg some q14) rfl (by rw [bC_len]; omega)) rfl fun _ K => og K rfl rfl (os_load rfl (lo14 _ 0 _ tk_bool rfl)) rfl fun _ K => o1 K (os_pick rfl rfl rfl) rfl fun _ K => o1 K (os_assign rfl) rfl fun _ K => wr_nil ?_
 show W _ _ _ _ _ _ _
 refine w_ret ?_
 refine ⟨.inr rfl, _, (res_one (rs_tmp K rfl)), ?_⟩
 exact ⟨congrArg AV.bool (Au.ok_at hi14).symm, M.qt⟩

theorem dAccepts_i {st : St} (hf : Fresh st) {F : Fp} {dp : Nat} {a : Au} (hD : DfaI st F dp a) {s : Nat} (hs : s < a.n) : ∃ v st', Ev Tryz.prog envP 26 [.ptr dp 0 0, .int .i64 (((s : Nat) : Int))] st v st' ∧ v = .bool (a.ok s) ∧ Qt st st' := by
 obtain ⟨_, _, _, _, _, _, hX⟩ := hD.x
 exact dAccepts_ev hf hX hs

end Go.Proofs.YtiknomepbklibaaGreatDoor
