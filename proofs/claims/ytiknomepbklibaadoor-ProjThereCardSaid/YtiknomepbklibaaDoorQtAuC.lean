/-
  Automata: looked at.
-/
import Derived.Test.YtiknomepbklibaaDoorQtAuB
namespace Go.Proofs.YtiknomepbklibaaDoor
open Go Go.RowKit
set_option linter.unusedVariables false
set_option linter.unusedSimpArgs false
set_option linter.unnecessarySimpa false
set_option maxRecDepth 100000
set_option maxHeartbeats 2000000

theorem zN_get {l : List Nat} {i r : Nat} (h : l[i]? = some r) : (zC (zN l))[i]? = some [.int .i64 ((r : Nat) : Int)] := zC_get (by rw [List.getElem?_map, h]; rfl)
theorem Au.ok_at {a : Au} {s : Nat} {b : Bool} (h : a.acc[s]? = some b) : a.ok s = b := by unfold Au.ok; rw [h]; rfl
theorem go_ev {a : Au} (wf : WFA a) {s r c : Nat} {S : Sto} (hs : s < a.n) (hc : c < 2 ^ a.tr) (h : a.nx[s]? = some (rowB a.tr S r)) : ((a.go s c : Nat) : Int) = evS S r c := by
 obtain ⟨q, z, h1, h2, h3, _⟩ := wf.at_ hs hc
 rw [h] at h1
 injection h1 with h1
 rw [← h1, rowB_get S r hc] at h2
 injection h2 with h2
 rw [h2, ← h3]
/-- An automaton, its parts by name. -/
structure DfaX (st : St) (F : Fp) (dp : Nat) (a : Au) (ka kr : AV) (sp : Nat) (F1 : Fp) (S : Sto) (roots : List Nat) : Prop where
  row : Row1 st.h.get dp 0 [ka, kr, .ptr sp 0 0]
  dpF : F dp
  acc : RdR st.h.get [] 1 (bC a.acc) ka
  accF : InF F ka
  rt : RdR st.h.get [] 1 (zC (zN roots)) kr
  rtF : InF F kr
  sto : StoAt st.h.get F1 sp a.tr S
  sub : ∀ c, F1 c → F c
  wfS : WFS a.tr S
  wf : WFA a
  len : roots.length = a.n
  rts : ∀ (s r : Nat), roots[s]? = some r → r < S.length ∧ a.nx[s]? = some (rowB a.tr S r)
  hi : ∀ c, F c → c < st.n
theorem DfaI.x {st : St} {F : Fp} {dp : Nat} {a : Au} (hD : DfaI st F dp a) : ∃ ka kr sp F1 S roots, DfaX st F dp a ka kr sp F1 S roots := by
 obtain ⟨ka, kr, sp, F1, S, roots, h1, h2, h3, h4, h5, h6, h7, h8, h9, h10, h11, h12⟩ := hD.at_
 exact ⟨ka, kr, sp, F1, S, roots, h1, h2, h3, h4, h5, h6, h7, h8, h9, h10, h11, h12, hD.hi⟩
section
variable {st st' : St} {F : Fp} {dp : Nat} {a : Au} {ka kr : AV} {sp : Nat} {F1 : Fp} {S : Sto} {roots : List Nat}
theorem DfaX.q (hX : DfaX st F dp a ka kr sp F1 S roots) (q : Qt st st') : DfaX st' F dp a ka kr sp F1 S roots := by
 have e : ∀ c, F c → st'.h.get c = st.h.get c := fun c hc => q.old c (hX.hi c hc)
 exact ⟨hX.row.frame (e dp hX.dpF), hX.dpF, hX.acc.frame fun c m o n y e' => e c (hX.accF c m o n y e'), hX.accF, hX.rt.frame fun c m o n y e' => e c (hX.rtF c m o n y e'), hX.rtF, hX.sto.frame fun c hc => e c (hX.sub c hc), hX.sub, hX.wfS, hX.wf, hX.len, hX.rts, fun c hc => Nat.lt_of_lt_of_le (hX.hi c hc) q.le⟩
theorem DfaX.i (hX : DfaX st F dp a ka kr sp F1 S roots) : StoI st F1 sp a.tr S := ⟨hX.sto, fun c hc => hX.hi c (hX.sub c hc)⟩
end
/-- Where a word leads to; nothing: it has a letter that there is not. -/
def runZ (a : Au) : Nat → List Int → Option Nat
  | s, [] => some s
  | s, c :: w => if 0 ≤ c ∧ c < 2 ^ a.tr then runZ a (a.go s c.toNat) w else none
def runV (a : Au) : Option Nat → AV
 | some s => .tup [.int .i64 ((s : Nat) : Int), .bool (a.ok s)]
 | none => .tup [.int .i64 (-1), .bool false]
theorem runZ_step {a : Au} {w : List Int} {i s : Nat} {c : Int} (h : w[i]? = some c) : runZ a s (w.drop i) = if 0 ≤ c ∧ c < 2 ^ a.tr then runZ a (a.go s c.toNat) (w.drop (i + 1)) else none := by
 obtain ⟨h1, h2⟩ := List.getElem?_eq_some_iff.1 h
 rw [List.drop_eq_getElem_cons h1, runZ, h2]
theorem runZ_nat (a : Au) : ∀ (w : List Nat) (s : Nat), LetK a.K w → runZ a s (zN w) = some (a.run s w)
 | [], s, _ => rfl
 | c :: w, s, h => by
  have hc := h c (by simp)
  have hc' : (c : Int) < 2 ^ a.tr := by
   have h0 : c < 2 ^ a.tr := hc
   have := pow_nat a.tr
   omega
  show (if 0 ≤ ((c : Nat) : Int) ∧ ((c : Nat) : Int) < 2 ^ a.tr then runZ a (a.go s ((c : Nat) : Int).toNat) (zN w) else none) = _
  rw [if_pos ⟨by omega, hc'⟩, Int.toNat_natCast, runZ_nat a w _ fun x hx => h x (by simp [hx])]
  rfl

theorem dStore_ev {st : St} (hf : Fresh st) {F : Fp} {dp : Nat} {a : Au} {ka kr : AV} {sp : Nat} {F1 : Fp} {S : Sto} {roots : List Nat} (hX : DfaX st F dp a ka kr sp F1 S roots)  : ∃ v st', Ev Tryd.prog envP 42 [.ptr dp 0 0] st v st' ∧ v = .ptr sp 0 0 ∧ Qt st st' := by
 have wf := hX.wf; have hen : a.n = a.acc.length := rfl; have hrl := hX.len
 refine ev_fn rfl Tryd.func42 rfl Tryd.ntmps42 rfl (by decide) (by simp) fun T hT => ?_
 have K : KnT [(0, _)] T := (.cons (hT 0) .nil)
 have M := Mem.start hf
 refine w_seq <| w_region <| o1 K (os_assign rfl) rfl fun _ K => wr_nil ?_
 show W _ _ _ _ _ _ _
 refine w_seq <| w_seq <| w_region <| o1 K (os_move rfl) rfl fun _ K => o1 K (os_eqPN un_P_auto_DFA rfl rfl) rfl fun _ K => wr_nil ?_
 show W _ _ _ _ _ _ _
 refine w_cond (t := false) (K.opd rfl) (fun h => by cases h) (fun _ => ?_)
 refine w_skip ?_
 show W _ _ _ _ _ _ _
 refine w_seq <| w_region <| o1 K (os_move rfl) rfl fun _ K => o1 K (os_nil rfl rfl) rfl fun _ K => o1 K (os_fieldAddr fo_auto_DFA_2 rfl) rfl fun _ K => o1 K (os_load rfl (ld_row (M.rowX (by simp) hX.row.rowV) (part_one tk_P_bdd_Store rfl))) rfl fun _ K => o1 K (os_assign rfl) rfl fun _ K => wr_nil ?_
 show W _ _ _ _ _ _ _
 refine w_ret ?_
 refine ⟨.inr rfl, _, (res_one (rs_tmp K rfl)), ?_⟩
 exact ⟨rfl, M.qt⟩

theorem dTracks_ev {st : St} (hf : Fresh st) {F : Fp} {dp : Nat} {a : Au} {ka kr : AV} {sp : Nat} {F1 : Fp} {S : Sto} {roots : List Nat} (hX : DfaX st F dp a ka kr sp F1 S roots)  : ∃ v st', Ev Tryd.prog envP 25 [.ptr dp 0 0] st v st' ∧ v = .int .i64 ((a.tr : Nat) : Int) ∧ Qt st st' := by
 have wf := hX.wf; have hen : a.n = a.acc.length := rfl; have hrl := hX.len
 refine ev_fn rfl Tryd.func25 rfl Tryd.ntmps25 rfl (by decide) (by simp) fun T hT => ?_
 have K : KnT [(0, _)] T := (.cons (hT 0) .nil)
 have M := Mem.start hf
 refine w_seq <| w_region <| o1 K (os_assign rfl) rfl fun _ K => wr_nil ?_
 show W _ _ _ _ _ _ _
 refine w_seq <| w_region <| o1 K (os_move rfl) rfl fun _ K => ?_
 obtain ⟨v4, st4, ev4, rfl, q4⟩ := dStore_ev M.fresh (hX.q M.qt)
 refine o1 K (os_call rfl ev4) rfl fun _ K => ?_
 replace M := M.quiet q4
 obtain ⟨v5, st5, ev5, rfl, q5⟩ := bTracks_ev M.fresh (hX.q M.qt).i
 refine o1 K (os_call rfl ev5) rfl fun _ K => ?_
 replace M := M.quiet q5
 refine o1 K (os_assign rfl) rfl fun _ K => wr_nil ?_
 show W _ _ _ _ _ _ _
 refine w_ret ?_
 refine ⟨.inr rfl, _, (res_one (rs_tmp K rfl)), ?_⟩
 exact ⟨rfl, M.qt⟩

theorem dTracks_i {st : St} (hf : Fresh st) {F : Fp} {dp : Nat} {a : Au} (hD : DfaI st F dp a)  : ∃ v st', Ev Tryd.prog envP 25 [.ptr dp 0 0] st v st' ∧ v = .int .i64 ((a.tr : Nat) : Int) ∧ Qt st st' := by
 obtain ⟨_, _, _, _, _, _, hX⟩ := hD.x
 exact dTracks_ev hf hX

theorem dStates_ev {st : St} (hf : Fresh st) {F : Fp} {dp : Nat} {a : Au} {ka kr : AV} {sp : Nat} {F1 : Fp} {S : Sto} {roots : List Nat} (hX : DfaX st F dp a ka kr sp F1 S roots)  : ∃ v st', Ev Tryd.prog envP 61 [.ptr dp 0 0] st v st' ∧ v = .int .i64 ((a.n : Nat) : Int) ∧ Qt st st' := by
 have wf := hX.wf; have hen : a.n = a.acc.length := rfl; have hrl := hX.len
 refine ev_fn rfl Tryd.func61 rfl Tryd.ntmps61 rfl (by decide) (by simp) fun T hT => ?_
 have K : KnT [(0, _)] T := (.cons (hT 0) .nil)
 have M := Mem.start hf
 refine w_seq <| w_region <| o1 K (os_assign rfl) rfl fun _ K => wr_nil ?_
 show W _ _ _ _ _ _ _
 refine w_seq <| w_seq <| w_region <| o1 K (os_move rfl) rfl fun _ K => o1 K (os_eqPN un_P_auto_DFA rfl rfl) rfl fun _ K => wr_nil ?_
 show W _ _ _ _ _ _ _
 refine w_cond (t := false) (K.opd rfl) (fun h => by cases h) (fun _ => ?_)
 refine w_skip ?_
 show W _ _ _ _ _ _ _
 refine w_seq <| w_region <| o1 K (os_move rfl) rfl fun _ K => o1 K (os_nil rfl rfl) rfl fun _ K => o1 K (os_fieldAddr fo_auto_DFA_0 rfl) rfl fun _ K => o1 K (os_load rfl (ld_row (M.rowX (by simp) hX.row.rowV) (part_one tk_S_bool rfl))) rfl fun _ K => o1 K (os_lenL un_S_bool rfl rfl (hX.acc.len.trans (congrArg some (bC_len _)))) rfl fun _ K => o1 K (os_assign rfl) rfl fun _ K => wr_nil ?_
 show W _ _ _ _ _ _ _
 refine w_ret ?_
 refine ⟨.inr rfl, _, (res_one (rs_tmp K rfl)), ?_⟩
 exact ⟨rfl, M.qt⟩

theorem dIs_ev {st : St} (hf : Fresh st) {F : Fp} {dp : Nat} {a : Au} {ka kr : AV} {sp : Nat} {F1 : Fp} {S : Sto} {roots : List Nat} (hX : DfaX st F dp a ka kr sp F1 S roots) {s : Nat} (hs : s < a.n) : ∃ v st', Ev Tryd.prog envP 44 [.ptr dp 0 0, .int .i64 (((s : Nat) : Int))] st v st' ∧ v = .bool true ∧ Qt st st' := by
 have wf := hX.wf; have hen : a.n = a.acc.length := rfl; have hrl := hX.len
 refine ev_fn rfl Tryd.func44 rfl Tryd.ntmps44 rfl (by decide) (by simp) fun T hT => ?_
 have K : KnT [(0, _), (1, _)] T := (.cons (hT 0) (.cons (hT 1) .nil))
 have M := Mem.start hf
 refine w_seq <| w_region <| o1 K (os_assign rfl) rfl fun _ K => wr_nil ?_
 show W _ _ _ _ _ _ _
 refine w_seq <| w_region <| o1 K (os_move rfl) rfl fun _ K => o1 K (os_geq rfl rfl) rfl fun _ K => ?_
 refine oB K (os_move rfl) rfl fun b7 _ e7 K => ?_
 cases b7
 ·replace e7 := of_decide_eq_false e7
  exfalso; omega
 replace e7 := of_decide_eq_true e7
 refine og K rfl rfl (os_move rfl) rfl fun _ K => og K rfl rfl (os_move rfl) rfl fun _ K => ?_
 obtain ⟨v10, st10, ev10, rfl, q10⟩ := dStates_ev M.fresh (hX.q M.qt)
 refine og K rfl rfl (os_call rfl ev10) rfl fun _ K => ?_
 replace M := M.quiet q10
 refine og K rfl rfl (os_lss rfl rfl) rfl fun _ K => o1 K (os_pick rfl rfl rfl) rfl fun _ K => o1 K (os_assign rfl) rfl fun _ K => wr_nil ?_
 show W _ _ _ _ _ _ _
 refine w_ret ?_
 refine ⟨.inr rfl, _, (res_one (rs_tmp K rfl)), ?_⟩
 exact ⟨congrArg AV.bool (decide_eq_true (by omega)), M.qt⟩

theorem dAccepts_ev {st : St} (hf : Fresh st) {F : Fp} {dp : Nat} {a : Au} {ka kr : AV} {sp : Nat} {F1 : Fp} {S : Sto} {roots : List Nat} (hX : DfaX st F dp a ka kr sp F1 S roots) {s : Nat} (hs : s < a.n) : ∃ v st', Ev Tryd.prog envP 26 [.ptr dp 0 0, .int .i64 (((s : Nat) : Int))] st v st' ∧ v = .bool (a.ok s) ∧ Qt st st' := by
 have wf := hX.wf; have hen : a.n = a.acc.length := rfl; have hrl := hX.len
 have hsa : s < a.acc.length := hs
 refine ev_fn rfl Tryd.func26 rfl Tryd.ntmps26 rfl (by decide) (by simp) fun T hT => ?_
 have K : KnT [(0, _), (1, _)] T := (.cons (hT 0) (.cons (hT 1) .nil))
 have M := Mem.start hf
 refine w_seq <| w_region <| o1 K (os_assign rfl) rfl fun _ K => wr_nil ?_
 show W _ _ _ _ _ _ _
 refine w_seq <| w_region <| o1 K (os_move rfl) rfl fun _ K => o1 K (os_move rfl) rfl fun _ K => ?_
 obtain ⟨v7, st7, ev7, rfl, q7⟩ := dIs_ev M.fresh (hX.q M.qt) hs
 refine o1 K (os_call rfl ev7) rfl fun _ K => ?_
 replace M := M.quiet q7
 refine o1 K (os_move rfl) rfl fun _ K => og K rfl rfl (os_move rfl) rfl fun _ K => og K rfl rfl (os_nil rfl rfl) rfl fun _ K => og K rfl rfl (os_fieldAddr fo_auto_DFA_0 rfl) rfl fun _ K => og K rfl rfl (os_load rfl (ld_row (M.rowX (by simp) hX.row.rowV) (part_one tk_S_bool rfl))) rfl fun _ K => og K rfl rfl (os_move rfl) rfl fun _ K => ?_
 obtain ⟨y14, hi14⟩ : ∃ x, a.acc[s]? = some x := ⟨_, List.getElem?_eq_getElem (by omega)⟩
 obtain ⟨x14, m14, f14, q14, _, la14, lo14, lp14⟩ := (RdR.mem M hX.acc (by simp)).load (i := s) (cs := _) (bC_get hi14)
 refine og K rfl rfl (os_indexAddr (j := s) el_S_bool (congrArg some q14) rfl (by rw [bC_len]; omega)) rfl fun _ K => og K rfl rfl (os_load rfl (lo14 _ 0 _ tk_bool rfl)) rfl fun _ K => o1 K (os_pick rfl rfl rfl) rfl fun _ K => o1 K (os_assign rfl) rfl fun _ K => wr_nil ?_
 show W _ _ _ _ _ _ _
 refine w_ret ?_
 refine ⟨.inr rfl, _, (res_one (rs_tmp K rfl)), ?_⟩
 exact ⟨congrArg AV.bool (Au.ok_at hi14).symm, M.qt⟩

theorem dAccepts_i {st : St} (hf : Fresh st) {F : Fp} {dp : Nat} {a : Au} (hD : DfaI st F dp a) {s : Nat} (hs : s < a.n) : ∃ v st', Ev Tryd.prog envP 26 [.ptr dp 0 0, .int .i64 (((s : Nat) : Int))] st v st' ∧ v = .bool (a.ok s) ∧ Qt st st' := by
 obtain ⟨_, _, _, _, _, _, hX⟩ := hD.x
 exact dAccepts_ev hf hX hs

theorem dRoot_ev {st : St} (hf : Fresh st) {F : Fp} {dp : Nat} {a : Au} {ka kr : AV} {sp : Nat} {F1 : Fp} {S : Sto} {roots : List Nat} (hX : DfaX st F dp a ka kr sp F1 S roots) {s : Nat} (hs : s < a.n) {r : Nat} (hr : roots[s]? = some r) : ∃ v st', Ev Tryd.prog envP 54 [.ptr dp 0 0, .int .i64 (((s : Nat) : Int))] st v st' ∧ v = .int .i64 ((r : Nat) : Int) ∧ Qt st st' := by
 have wf := hX.wf; have hen : a.n = a.acc.length := rfl; have hrl := hX.len
 refine ev_fn rfl Tryd.func54 rfl Tryd.ntmps54 rfl (by decide) (by simp) fun T hT => ?_
 have K : KnT [(0, _), (1, _)] T := (.cons (hT 0) (.cons (hT 1) .nil))
 have M := Mem.start hf
 refine w_seq <| w_region <| o1 K (os_assign rfl) rfl fun _ K => wr_nil ?_
 show W _ _ _ _ _ _ _
 refine w_seq <| w_seq <| w_region <| o1 K (os_move rfl) rfl fun _ K => o1 K (os_move rfl) rfl fun _ K => ?_
 obtain ⟨v7, st7, ev7, rfl, q7⟩ := dIs_ev M.fresh (hX.q M.qt) hs
 refine o1 K (os_call rfl ev7) rfl fun _ K => ?_
 replace M := M.quiet q7
 refine o1 K (os_not rfl) rfl fun _ K => wr_nil ?_
 show W _ _ _ _ _ _ _
 refine w_cond (t := false) (K.opd rfl) (fun h => by cases h) (fun _ => ?_)
 refine w_skip ?_
 show W _ _ _ _ _ _ _
 refine w_seq <| w_region <| o1 K (os_move rfl) rfl fun _ K => o1 K (os_nil rfl rfl) rfl fun _ K => o1 K (os_fieldAddr fo_auto_DFA_1 rfl) rfl fun _ K => o1 K (os_load rfl (ld_row (M.rowX (by simp) hX.row.rowV) (part_one tk_S_int rfl))) rfl fun _ K => o1 K (os_move rfl) rfl fun _ K => ?_
 obtain ⟨y14, hi14⟩ : ∃ x, roots[s]? = some x := ⟨_, List.getElem?_eq_getElem (by omega)⟩
 obtain ⟨x14, m14, f14, q14, _, la14, lo14, lp14⟩ := (RdR.mem M hX.rt (by simp)).load (i := s) (cs := _) (zN_get hi14)
 refine o1 K (os_indexAddr (j := s) el_S_int (congrArg some q14) rfl (by rw [zC_len, List.length_map]; omega)) rfl fun _ K => o1 K (os_load rfl (lo14 _ 0 _ tk_int rfl)) rfl fun _ K => o1 K (os_assign rfl) rfl fun _ K => wr_nil ?_
 show W _ _ _ _ _ _ _
 refine w_ret ?_
 refine ⟨.inr rfl, _, (res_one (rs_tmp K rfl)), ?_⟩
 rw [hr] at hi14; injection hi14 with hi14; subst hi14
 exact ⟨rfl, M.qt⟩

theorem bAtNo_ev {st : St} (hf : Fresh st) {F : Fp} {sp Tn : Nat} {S : Sto} (hS : StoI st F sp Tn S) (h6 : Tn ≤ 6) {i : Nat} (hi : i < S.length) {c : Int} (hc : c < 0 ∨ ((2 ^ Tn : Nat) : Int) ≤ c) : ∃ v st', Ev Tryd.prog envP 46 [.ptr sp 0 0, .int .i64 (((i : Nat) : Int)), .int .i64 c] st v st' ∧ v = .int .i64 (-1) ∧ Qt st st' := by
 have hp := pow_le62 (show Tn ≤ 62 by omega)
 refine ev_fn rfl Tryd.func46 rfl Tryd.ntmps46 rfl (by decide) (by simp) fun T hT => ?_
 have K : KnT [(0, _), (1, _), (2, _)] T := (.cons (hT 0) (.cons (hT 1) (.cons (hT 2) .nil)))
 have M := Mem.start hf
 refine w_seq <| w_region <| o1 K (os_assign rfl) rfl fun _ K => wr_nil ?_
 show W _ _ _ _ _ _ _
 refine w_seq <| w_seq <| w_region <| o1 K (os_move rfl) rfl fun _ K => o1 K (os_move rfl) rfl fun _ K => ?_
 obtain ⟨v9, st9, ev9, rfl, q9⟩ := bIs_ev M.fresh (hS.q M.qt) hi
 refine o1 K (os_call rfl ev9) rfl fun _ K => ?_
 replace M := M.quiet q9
 refine o1 K (os_not rfl) rfl fun _ K => o1 K (os_move rfl) rfl fun _ K => og K rfl rfl (os_move rfl) rfl fun _ K => og K rfl rfl (os_lss rfl rfl) rfl fun _ K => o1 K (os_pick rfl rfl rfl) rfl fun _ K => ?_
 refine oB K (os_move rfl) rfl fun b15 _ e15 K => ?_
 cases b15
 ·replace e15 := of_decide_eq_false e15
  refine og K rfl rfl (os_move rfl) rfl fun _ K => og K rfl rfl (os_move rfl) rfl fun _ K => ?_
  obtain ⟨v18, st18, ev18, rfl, q18⟩ := bTracks_ev M.fresh (hS.q M.qt)
  refine og K rfl rfl (os_call rfl ev18) rfl fun _ K => ?_
  replace M := M.quiet q18
  refine og K rfl rfl (os_shl1 (n := Tn) rfl rfl (by omega)) rfl fun _ K => og K rfl rfl (os_geq rfl rfl) rfl fun _ K => o1 K (os_pick rfl rfl rfl) rfl fun _ K => wr_nil ?_
  show W _ _ _ _ _ _ _
  refine w_cond (K.opd rfl) (fun h21 => ?_) (fun h21 => ?_)
  ·have hb21 := h21
   replace h21 := of_decide_eq_true h21
   refine w_seq <| w_region <| o1 K (os_assign rfl) rfl fun _ K => wr_nil ?_
   show W _ _ _ _ _ _ _
   refine w_ret ?_
   refine ⟨.inr rfl, _, (res_one (rs_tmp K rfl)), ?_⟩
   exact ⟨rfl, M.qt⟩
  have hb21 := h21
  replace h21 := of_decide_eq_false h21
  exfalso; omega
 replace e15 := of_decide_eq_true e15
 refine gn K rfl rfl rfl rfl fun _ K => gn K rfl rfl rfl rfl fun _ K => gn K rfl rfl rfl rfl fun _ K => gn K rfl rfl rfl rfl fun _ K => gn K rfl rfl rfl rfl fun _ K => o1 K (os_pick rfl rfl rfl) rfl fun _ K => wr_nil ?_
 show W _ _ _ _ _ _ _
 refine w_cond (t := true) (K.opd rfl) (fun _ => ?_) (fun h => by cases h)
 refine w_seq <| w_region <| o1 K (os_assign rfl) rfl fun _ K => wr_nil ?_
 show W _ _ _ _ _ _ _
 refine w_ret ?_
 refine ⟨.inr rfl, _, (res_one (rs_tmp K rfl)), ?_⟩
 exact ⟨rfl, M.qt⟩

theorem bAtZ_ev {st : St} (hf : Fresh st) {F : Fp} {sp Tn : Nat} {S : Sto} (hS : StoI st F sp Tn S) (h6 : Tn ≤ 6) (wf : WFS Tn S) {i : Nat} (hi : i < S.length) (c : Int) : ∃ v st', Ev Tryd.prog envP 46 [.ptr sp 0 0, .int .i64 ((i : Nat) : Int), .int .i64 c] st v st' ∧ v = .int .i64 (if 0 ≤ c ∧ c < 2 ^ Tn then evS S i c.toNat else -1) ∧ Qt st st' := by
 have hp := pow_nat Tn
 by_cases h : 0 ≤ c ∧ c < 2 ^ Tn
 ·rw [if_pos h]
  obtain ⟨k, rfl⟩ : ∃ k : Nat, c = ((k : Nat) : Int) := ⟨c.toNat, by omega⟩
  exact bAt_ev hf hS h6 wf hi (by omega)
 ·rw [if_neg h]
  exact bAtNo_ev hf hS h6 hi (by omega)

theorem dStep_ev {st : St} (hf : Fresh st) {F : Fp} {dp : Nat} {a : Au} {ka kr : AV} {sp : Nat} {F1 : Fp} {S : Sto} {roots : List Nat} (hX : DfaX st F dp a ka kr sp F1 S roots) {s : Nat} (hs : s < a.n) (c : Int) : ∃ v st', Ev Tryd.prog envP 37 [.ptr dp 0 0, .int .i64 (((s : Nat) : Int)), .int .i64 c] st v st' ∧ v = .int .i64 (if 0 ≤ c ∧ c < 2 ^ a.tr then ((a.go s c.toNat : Nat) : Int) else -1) ∧ Qt st st' := by
 have wf := hX.wf; have hen : a.n = a.acc.length := rfl; have hrl := hX.len
 obtain ⟨r, hr⟩ : ∃ x, roots[s]? = some x := ⟨_, List.getElem?_eq_getElem (by omega)⟩
 obtain ⟨hr1, hr2⟩ := hX.rts _ _ hr
 refine ev_fn rfl Tryd.func37 rfl Tryd.ntmps37 rfl (by decide) (by simp) fun T hT => ?_
 have K : KnT [(0, _), (1, _), (2, _)] T := (.cons (hT 0) (.cons (hT 1) (.cons (hT 2) .nil)))
 have M := Mem.start hf
 refine w_seq <| w_region <| o1 K (os_assign rfl) rfl fun _ K => wr_nil ?_
 show W _ _ _ _ _ _ _
 refine w_seq <| w_region <| o1 K (os_move rfl) rfl fun _ K => ?_
 obtain ⟨v8, st8, ev8, rfl, q8⟩ := dStore_ev M.fresh (hX.q M.qt)
 refine o1 K (os_call rfl ev8) rfl fun _ K => ?_
 replace M := M.quiet q8
 refine o1 K (os_move rfl) rfl fun _ K => o1 K (os_move rfl) rfl fun _ K => ?_
 obtain ⟨v11, st11, ev11, rfl, q11⟩ := dRoot_ev M.fresh (hX.q M.qt) hs hr
 refine o1 K (os_call rfl ev11) rfl fun _ K => ?_
 replace M := M.quiet q11
 refine o1 K (os_move rfl) rfl fun _ K => ?_
 obtain ⟨v13, st13, ev13, rfl, q13⟩ := bAtZ_ev M.fresh (hX.q M.qt).i wf.tr hX.wfS hr1 c
 refine o1 K (os_call rfl ev13) rfl fun _ K => ?_
 replace M := M.quiet q13
 refine o1 K (os_assign rfl) rfl fun _ K => wr_nil ?_
 show W _ _ _ _ _ _ _
 refine w_ret ?_
 refine ⟨.inr rfl, _, (res_one (rs_tmp K rfl)), ?_⟩
 refine ⟨congrArg (AV.int .i64) ?_, M.qt⟩
 have hp := pow_nat a.tr
 by_cases h : 0 ≤ c ∧ c < 2 ^ a.tr
 ·rw [if_pos h, if_pos h, go_ev wf hs (by omega) hr2]
 ·rw [if_neg h, if_neg h]

theorem dRun_ev {st : St} (hf : Fresh st) {F : Fp} {dp : Nat} {a : Au} {ka kr : AV} {sp : Nat} {F1 : Fp} {S : Sto} {roots : List Nat} (hX : DfaX st F dp a ka kr sp F1 S roots) {w : List Int} {kw : AV} (hw : RdR st.h.get [] 1 (zC w) kw) : ∃ v st', Ev Tryd.prog envP 20 [.ptr dp 0 0, kw] st v st' ∧ v = runV a (runZ a 0 w) ∧ Qt st st' := by
 have wf := hX.wf; have hen : a.n = a.acc.length := rfl; have hrl := hX.len
 have hbnw : (w.length : Int) ≤ 9223372036854775807 := by have := hw.bnd; rw [zC_len] at this; exact this
 have hps := wf.pos; have hp := pow_nat a.tr
 refine ev_fn rfl Tryd.func20 rfl Tryd.ntmps20 rfl (by decide) (by simp) fun T hT => ?_
 have K : KnT [(0, _), (1, _)] T := (.cons (hT 0) (.cons (hT 1) .nil))
 have M := Mem.start hf
 refine w_seq <| w_region <| o1 K (os_assign rfl) rfl fun _ K => o1 K (os_assign rfl) rfl fun _ K => wr_nil ?_
 show W _ _ _ _ _ _ _
 refine w_seq <| w_seq <| w_region <| o1 K (os_move rfl) rfl fun _ K => o1 K (os_eqPN un_P_auto_DFA rfl rfl) rfl fun _ K => wr_nil ?_
 show W _ _ _ _ _ _ _
 refine w_cond (t := false) (K.opd rfl) (fun h => by cases h) (fun _ => ?_)
 refine w_skip ?_
 show W _ _ _ _ _ _ _
 refine w_seq <| w_seq <| w_region <| o1 K (os_move rfl) rfl fun _ K => o1 K (os_lenL un_S_int rfl rfl (hw.len.trans (congrArg some (zC_len _)))) rfl fun _ K => o1 K (os_move rfl) rfl fun _ K => wr_nil ?_
 show W _ _ _ _ _ _ _
 refine w_block ?_
 refine w_loop (fun mm1 T st9 => ∃ (i s : Nat), mm1 = w.length - i ∧ KnT [(0, .ptr dp 0 0), (4, .int .i64 (((s : Nat) : Int))), (10, kw), (11, .int .i64 (((w.length : Nat) : Int))), (12, .int .i64 (((i : Nat) : Int)))] T ∧ Mem st.h.get st.n [] st9 [] ∧ i ≤ w.length ∧ s < a.n ∧ runZ a 0 w = runZ a s (w.drop i)) (fun mm1 T st9 hI => ?_) _ _ _ ⟨0, 0, rfl, (.cons (K _ _ rfl) (.cons (K _ _ rfl) (.cons (K _ _ rfl) (.cons (K _ _ rfl) (.cons (K _ _ rfl) .nil))))), M.less (.refl _), (Nat.zero_le _), hps, rfl⟩
 obtain ⟨i, s, rfl, K, M, hi, hs, hx⟩ := hI
 refine w_seq <| w_region <| o1 K (os_lss rfl rfl) rfl fun _ K => wr_nil ?_
 show W _ _ _ _ _ _ _
 refine w_seq ?_
 refine w_cond (K.opd rfl) (fun h13 => ?_) (fun h13 => ?_)
 ·have hb13 := h13
  replace h13 := of_decide_eq_true h13
  refine w_skip ?_
  show W _ _ _ _ _ _ _
  refine w_seq <| w_block <| w_seq <| w_region ?_
  obtain ⟨y14, hi14⟩ : ∃ x, w[i]? = some x := ⟨_, List.getElem?_eq_getElem (by omega)⟩
  obtain ⟨x14, m14, f14, q14, _, la14, lo14, lp14⟩ := (RdR.mem M hw (by simp)).load (i := i) (cs := _) (zC_get hi14)
  refine o1 K (os_indexAddr (j := i) el_S_int (congrArg some q14) rfl (by rw [zC_len]; omega)) rfl fun _ K => o1 K (os_load rfl (lo14 _ 0 _ tk_int rfl)) rfl fun _ K => o1 K (os_assign rfl) rfl fun _ K => wr_nil ?_
  show W _ _ _ _ _ _ _
  refine w_seq <| w_region <| o1 K (os_move rfl) rfl fun _ K => o1 K (os_move rfl) rfl fun _ K => o1 K (os_move rfl) rfl fun _ K => ?_
  obtain ⟨v19, st19, ev19, rfl, q19⟩ := dStep_ev M.fresh (hX.q M.qt) hs y14
  refine o1 K (os_call rfl ev19) rfl fun _ K => ?_
  replace M := M.quiet q19
  refine o1 K (os_assign rfl) rfl fun _ K => wr_nil ?_
  show W _ _ _ _ _ _ _
  refine w_seq ?_
  have hst : 0 ≤ y14 ∧ y14 < 2 ^ a.tr ∨ ¬ (0 ≤ y14 ∧ y14 < 2 ^ a.tr) := Classical.em _
  refine w_region <| o1 K (os_move rfl) rfl fun _ K => o1 K (os_lss rfl rfl) rfl fun _ K => wr_nil ?_
  show W _ _ _ _ _ _ _
  refine w_cond (K.opd rfl) (fun h21 => ?_) (fun h21 => ?_)
  ·have hb21 := h21
   replace h21 := of_decide_eq_true h21
   refine w_seq <| w_region <| o1 K (os_assign rfl) rfl fun _ K => o1 K (os_assign rfl) rfl fun _ K => wr_nil ?_
   show W _ _ _ _ _ _ _
   refine w_ret ?_
   refine ⟨.inr rfl, _, (res_two (rs_tmp K rfl) (rs_tmp K rfl)), ?_⟩
   refine ⟨?_, M.qt⟩
   have hy : ¬ (0 ≤ y14 ∧ y14 < 2 ^ a.tr) := fun h => by rw [if_pos h] at h21; omega
   rw [hx, runZ_step hi14, if_neg hy]; rfl
  have hb21 := h21
  replace h21 := of_decide_eq_false h21
  refine w_skip ?_
  show W _ _ _ _ _ _ _
  refine w_region <| o1 K (os_add rfl rfl (by omega) (by omega)) rfl fun _ K => o1 K (os_move rfl) rfl fun _ K => wr_nil ?_
  have hy : 0 ≤ y14 ∧ y14 < 2 ^ a.tr := Classical.byContradiction fun h => by rw [if_neg h] at h21; omega
  rw [if_pos hy] at K
  exact ⟨_, (by omega), i + 1, a.go s y14.toNat, rfl, (.cons (K _ _ rfl) (.cons (K _ _ rfl) (.cons (K _ _ rfl) (.cons (K _ _ rfl) (.cons (K _ _ rfl) .nil))))), M.less (.refl _), (by omega), (wf.go_lt hs (show y14.toNat < 2 ^ a.tr by omega)), (by rw [hx, runZ_step hi14, if_pos hy])⟩
 have hb13 := h13
 replace h13 := of_decide_eq_false h13
 refine w_exit ?_
 show W _ _ _ _ _ _ _
 refine w_seq ?_
 have hsa : s < a.acc.length := hs
 refine w_drawI (l := [(0, 0), (1, 0), (2, 0), (3, 0), (4, 0), (5, 0), (6, 0), (7, 0), (8, 0), (9, 0)]) (by kernel_rfl) ?_
 refine d1 rfl K (os_move rfl) rfl rfl fun _ K => d1 rfl K (os_move rfl) rfl rfl fun _ K => d1 rfl K (os_nil rfl rfl) rfl rfl fun _ K => d1 rfl K (os_fieldAddr fo_auto_DFA_0 rfl) rfl rfl fun _ K => d1 rfl K (os_load rfl (ld_row (M.rowX (by simp) hX.row.rowV) (part_one tk_S_bool rfl))) rfl rfl fun _ K => d1 rfl K (os_move rfl) rfl rfl fun _ K => ?_
 obtain ⟨y29, hi29⟩ : ∃ x, a.acc[s]? = some x := ⟨_, List.getElem?_eq_getElem (by omega)⟩
 obtain ⟨x29, m29, f29, q29, _, la29, lo29, lp29⟩ := (RdR.mem M hX.acc (by simp)).load (i := s) (cs := _) (bC_get hi29)
 refine d1 rfl K (os_indexAddr (j := s) el_S_bool (congrArg some q29) rfl (by rw [bC_len]; omega)) rfl rfl fun _ K => d1 rfl K (os_load rfl (lo29 _ 0 _ tk_bool rfl)) rfl rfl fun _ K => d1 rfl K (os_assign rfl) rfl rfl fun _ K => d1 rfl K (os_assign rfl) rfl rfl fun _ K => wd_nil ?_
 show W _ _ _ _ _ _ _
 refine w_ret ?_
 refine ⟨.inr rfl, _, (res_two (rs_tmp K rfl) (rs_tmp K rfl)), ?_⟩
 refine ⟨?_, M.qt⟩
 rw [hx, List.drop_eq_nil_of_le (by omega), runZ]
 show _ = AV.tup [.int .i64 ((s : Nat) : Int), .bool (a.ok s)]
 rw [Au.ok_at hi29]

theorem dRun_i {st : St} (hf : Fresh st) {F : Fp} {dp : Nat} {a : Au} (hD : DfaI st F dp a) {w : List Int} {kw : AV} (hw : RdR st.h.get [] 1 (zC w) kw) : ∃ v st', Ev Tryd.prog envP 20 [.ptr dp 0 0, kw] st v st' ∧ v = runV a (runZ a 0 w) ∧ Qt st st' := by
 obtain ⟨_, _, _, _, _, _, hX⟩ := hD.x
 exact dRun_ev hf hX hw
end Go.Proofs.YtiknomepbklibaaDoor
