/-
  Rows of numbers: a copy, are two the same, sorted.
-/
import Derived.Test.YtiknomepbklibaaDoorPcPoolS
namespace Go.Proofs.YtiknomepbklibaaDoor
open Go Go.RowKit
set_option linter.unusedVariables false
set_option linter.unusedSimpArgs false
set_option linter.unnecessarySimpa false
set_option maxRecDepth 100000
set_option maxHeartbeats 1000000

theorem sameZ_ev {st : St} (hf : Fresh st) {a b : List Int} {ka kb : AV} (hA : RdR st.h.get [] 1 (zC a) ka) (hB : RdR st.h.get [] 1 (zC b) kb) : ∃ v st', Ev Tryd.prog envP 27 [ka, kb] st v st' ∧ v = .bool (decide (a = b)) ∧ Qt st st' := by
 have hbna : (a.length : Int) ≤ 9223372036854775807 := by have := hA.bnd; rw [zC_len] at this; exact this
 have hbnb : (b.length : Int) ≤ 9223372036854775807 := by have := hB.bnd; rw [zC_len] at this; exact this
 refine ev_fn rfl Tryd.func27 rfl Tryd.ntmps27 rfl (by decide) (by simp) fun T hT => ?_
 have K : KnT [(0, _), (1, _)] T := (.cons (hT 0) (.cons (hT 1) .nil))
 have M := Mem.start hf
 refine w_seq <| w_region <| o1 K (os_assign rfl) rfl fun _ K => wr_nil ?_
 show W _ _ _ _ _ _ _
 refine w_seq <| w_seq <| w_region <| o1 K (os_move rfl) rfl fun _ K => o1 K (os_lenL un_S_int rfl rfl (hA.len.trans (congrArg some (zC_len _)))) rfl fun _ K => o1 K (os_move rfl) rfl fun _ K => o1 K (os_lenL un_S_int rfl rfl (hB.len.trans (congrArg some (zC_len _)))) rfl fun _ K => o1 K (os_neI rfl rfl) rfl fun _ K => wr_nil ?_
 show W _ _ _ _ _ _ _
 refine w_cond (K.opd rfl) (fun h10 => ?_) (fun h10 => ?_)
 ·have hb10 := h10
  replace h10 : ¬ (((a.length : Nat) : Int) = ((b.length : Nat) : Int)) := by simpa using h10
  refine w_seq <| w_region <| o1 K (os_assign rfl) rfl fun _ K => wr_nil ?_
  show W _ _ _ _ _ _ _
  refine w_ret ?_
  refine ⟨.inr rfl, _, (res_one (rs_tmp K rfl)), ?_⟩
  refine ⟨congrArg AV.bool (Eq.symm (decide_eq_false fun e => h10 (by rw [e]))), M.qt⟩
 have hb10 := h10
 replace h10 : (((a.length : Nat) : Int) = ((b.length : Nat) : Int)) := by simpa using h10
 refine w_skip ?_
 show W _ _ _ _ _ _ _
 refine w_seq <| w_seq <| w_region <| o1 K (os_assign rfl) rfl fun _ K => wr_nil ?_
 show W _ _ _ _ _ _ _
 refine w_block ?_
 refine w_loop (fun mm1 T st9 => ∃ (i : Nat), mm1 = a.length - i ∧ KnT [(0, ka), (1, kb), (5, .int .i64 (((i : Nat) : Int)))] T ∧ Mem st.h.get st.n [] st9 [] ∧ i ≤ a.length ∧ (∀ j, j < i → a[j]? = b[j]?)) (fun mm1 T st9 hI => ?_) _ _ _ ⟨0, rfl, (.cons (K _ _ rfl) (.cons (K _ _ rfl) (.cons (K _ _ rfl) .nil))), M.less (.refl _), (Nat.zero_le _), (fun j hj => absurd hj (Nat.not_lt_zero j))⟩
 obtain ⟨i, rfl, K, M, hi, hx⟩ := hI
 refine w_seq <| w_seq <| w_region <| o1 K (os_move rfl) rfl fun _ K => o1 K (os_move rfl) rfl fun _ K => o1 K (os_lenL un_S_int rfl rfl (hA.len.trans (congrArg some (zC_len _)))) rfl fun _ K => o1 K (os_lss rfl rfl) rfl fun _ K => wr_nil ?_
 show W _ _ _ _ _ _ _
 refine w_cond (K.opd rfl) (fun h14 => ?_) (fun h14 => ?_)
 ·have hb14 := h14
  replace h14 := of_decide_eq_true h14
  refine w_skip ?_
  show W _ _ _ _ _ _ _
  refine w_seq <| w_block <| w_seq ?_
  refine w_drawI (l := [(0, 0), (1, 0), (2, 0), (3, 0), (4, 0), (5, 0), (6, 0), (7, 0), (8, 0)]) (by kernel_rfl) ?_
  refine d1 rfl K (os_move rfl) rfl rfl fun _ K => d1 rfl K (os_move rfl) rfl rfl fun _ K => ?_
  obtain ⟨y19, hi19⟩ : ∃ x, a[i]? = some x := ⟨_, List.getElem?_eq_getElem (by omega)⟩
  obtain ⟨x19, m19, f19, q19, _, la19, lo19, lp19⟩ := (RdR.mem M hA (by simp)).load (i := i) (cs := _) (zC_get hi19)
  refine d1 rfl K (os_indexAddr (j := i) el_S_int (congrArg some q19) rfl (by rw [zC_len]; omega)) rfl rfl fun _ K => d1 rfl K (os_load rfl (lo19 _ 0 _ tk_int rfl)) rfl rfl fun _ K => d1 rfl K (os_move rfl) rfl rfl fun _ K => d1 rfl K (os_move rfl) rfl rfl fun _ K => ?_
  obtain ⟨y23, hi23⟩ : ∃ x, b[i]? = some x := ⟨_, List.getElem?_eq_getElem (by omega)⟩
  obtain ⟨x23, m23, f23, q23, _, la23, lo23, lp23⟩ := (RdR.mem M hB (by simp)).load (i := i) (cs := _) (zC_get hi23)
  refine d1 rfl K (os_indexAddr (j := i) el_S_int (congrArg some q23) rfl (by rw [zC_len]; omega)) rfl rfl fun _ K => d1 rfl K (os_load rfl (lo23 _ 0 _ tk_int rfl)) rfl rfl fun _ K => d1 rfl K (os_neI rfl rfl) rfl rfl fun _ K => wd_nil ?_
  show W _ _ _ _ _ _ _
  refine w_cond (K.opd rfl) (fun h25 => ?_) (fun h25 => ?_)
  ·have hb25 := h25
   replace h25 : ¬ (y19 = y23) := by simpa using h25
   refine w_seq <| w_region <| o1 K (os_assign rfl) rfl fun _ K => wr_nil ?_
   show W _ _ _ _ _ _ _
   refine w_ret ?_
   refine ⟨.inr rfl, _, (res_one (rs_tmp K rfl)), ?_⟩
   refine ⟨congrArg AV.bool (Eq.symm (decide_eq_false fun e => h25 (by rw [e, hi23] at hi19; injection hi19 with e1; exact e1.symm))), M.qt⟩
  have hb25 := h25
  replace h25 : (y19 = y23) := by simpa using h25
  refine w_skip ?_
  show W _ _ _ _ _ _ _
  refine w_region <| o1 K (os_move rfl) rfl fun _ K => o1 K (os_add rfl rfl (by omega) (by omega)) rfl fun _ K => o1 K (os_assign rfl) rfl fun _ K => wr_nil ?_
  exact ⟨_, (by omega), i + 1, rfl, (.cons (K _ _ rfl) (.cons (K _ _ rfl) (.cons (K _ _ rfl) .nil))), M.less (.refl _), (by omega), (fun j hj => by rcases Nat.lt_succ_iff_lt_or_eq.1 hj with h | h; exact hx j h; (subst h; rw [hi19, hi23, h25]))⟩
 have hb14 := h14
 replace h14 := of_decide_eq_false h14
 refine w_exit ?_
 show W _ _ _ _ _ _ _
 refine w_seq <| w_region <| o1 K (os_assign rfl) rfl fun _ K => wr_nil ?_
 show W _ _ _ _ _ _ _
 refine w_ret ?_
 refine ⟨.inr rfl, _, (res_one (rs_tmp K rfl)), ?_⟩
 refine ⟨congrArg AV.bool (Eq.symm (decide_eq_true (List.ext_getElem? fun j => ?_))), M.qt⟩
 by_cases hj : j < a.length
 ·exact hx j (by omega)
 ·rw [List.getElem?_eq_none (by omega), List.getElem?_eq_none (by omega)]

end Go.Proofs.YtiknomepbklibaaDoor
