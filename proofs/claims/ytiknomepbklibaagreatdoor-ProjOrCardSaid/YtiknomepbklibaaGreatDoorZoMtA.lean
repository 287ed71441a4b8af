/-
  What was done: the meter, in memory.
-/
import Derived.Test.YtiknomepbklibaaGreatDoorZoAcO
namespace Go.Proofs.YtiknomepbklibaaGreatDoor
open Go Go.RowKit
set_option linter.unusedVariables false
set_option linter.unusedSimpArgs false
set_option linter.unnecessarySimpa false
set_option maxRecDepth 100000
set_option maxHeartbeats 1000000

/-- A meter: what is left, whether there was not enough. -/
def mtO (mp l : Nat) (o : Bool) : Ob := ⟨fun c => c = mp, fun h => Row1 h mp 0 [.int .i64 ((l : Nat) : Int), .bool o], fun _ _ e H => H.frame (e mp rfl)⟩
theorem MemO.startRow {st : St} (hf : Fresh st) {c m : Nat} {l : List AV} (h : Row1 st.h.get c m l) : MemO st (fun x => x = c) st [(c, m, l)] [] :=
 ⟨hf, Nat.le_refl _, fun c' m' l' h' => (by injection List.mem_singleton.1 h' with e1 e2; injection e2 with e2 e3; subst e1 e2 e3; exact h), List.nodup_cons.2 ⟨by simp, List.nodup_nil⟩, fun c' m' l' h' => (by injection List.mem_singleton.1 h' with e1 e2; exact .inr e1), fun o h => (by cases h), fun o h => (by cases h), .nil, fun o h => (by cases h), fun _ _ _ => rfl⟩
def mOk (l : Nat) (o : Bool) (n : Nat) : Bool := !o && decide (n ≤ l)
def mLeft (l : Nat) (o : Bool) (n : Nat) : Nat := if o then l else l - n
def mOut (l : Nat) (o : Bool) (n : Nat) : Bool := o || decide (l < n)
theorem mOk_yes {l n : Nat} (h : n ≤ l) : mOk l false n = true := by simp [mOk, h]
theorem mOut_yes {l n : Nat} (h : n ≤ l) : mOut l false n = false := by simp [mOut]; omega

theorem mNew_ev {st : St} (hf : Fresh st) (n : Int) : ∃ v st', Ev Tryz.prog envP 11 [.int .i64 n] st v st' ∧ ∃ mp, v = .ptr mp 0 0 ∧ st.n ≤ mp ∧ Row1 st'.h.get mp 0 [.int .i64 ((n.toNat : Nat) : Int), .bool false] ∧ Qt st st' := by
 refine ev_fn rfl Tryz.func11 rfl Tryz.ntmps11 rfl (by decide) (by simp) fun T hT => ?_
 have K : KnT [(0, _)] T := (.cons (hT 0) .nil)
 have M := Mem.start hf
 refine w_seq <| w_region <| o1 K (os_assign rfl) rfl fun _ K => wr_nil ?_
 show W _ _ _ _ _ _ _
 refine w_seq <| w_region <| o1 K (os_move rfl) rfl fun _ K => o1 K (os_max rfl rfl) rfl fun _ K => o1 K (os_build st_meter_Meter rfl rfl) rfl fun _ K => ?_
 refine wr_box K M rfl rfl (by decide) fun c6 _ _ K M => ?_
 refine o1 K (os_assign rfl) rfl fun _ K => wr_nil ?_
 show W _ _ _ _ _ _ _
 refine w_ret ?_
 refine ⟨.inr rfl, _, (res_one (rs_tmp K rfl)), ?_⟩
 refine ⟨c6, rfl, (M.own c6 0 _ (List.mem_cons_self ..)).resolve_right (by simp), ?_, M.qt⟩
 have hr9 := M.row1 (k := 0) rfl
 rwa [show max n 0 = ((n.toNat : Nat) : Int) by omega] at hr9

theorem mOut_ev {st : St} (hf : Fresh st) {mp l : Nat} {o : Bool} (hr : Row1 st.h.get mp 0 [.int .i64 ((l : Nat) : Int), .bool o]) : ∃ v st', Ev Tryz.prog envP 88 [.ptr mp 0 0] st v st' ∧ v = .bool o ∧ Qt st st' := by
 refine ev_fn rfl Tryz.func88 rfl Tryz.ntmps88 rfl (by decide) (by simp) fun T hT => ?_
 have K : KnT [(0, _)] T := (.cons (hT 0) .nil)
 have M := Mem.start hf
 refine w_seq <| w_region <| o1 K (os_assign rfl) rfl fun _ K => wr_nil ?_
 show W _ _ _ _ _ _ _
 refine w_seq <| w_region <| o1 K (os_move rfl) rfl fun _ K => o1 K (os_eqPN un_P_meter_Meter rfl rfl) rfl fun _ K => o1 K (os_move rfl) rfl fun _ K => og K rfl rfl (os_move rfl) rfl fun _ K => og K rfl rfl (os_nil rfl rfl) rfl fun _ K => og K rfl rfl (os_fieldAddr fo_meter_Meter_1 rfl) rfl fun _ K => og K rfl rfl (os_load rfl (ld_row (M.rowX (by simp) hr.rowV) (part_one tk_bool rfl))) rfl fun _ K => ?_
 refine o1 K (os_pick rfl rfl rfl) rfl fun _ K => o1 K (os_assign rfl) rfl fun _ K => wr_nil ?_
 show W _ _ _ _ _ _ _
 refine w_ret ?_
 refine ⟨.inr rfl, _, (res_one (rs_tmp K rfl)), ?_⟩
 exact ⟨rfl, M.qt⟩

theorem mSpend_ev {st : St} (hf : Fresh st) {mp l : Nat} {o : Bool} (hr : Row1 st.h.get mp 0 [.int .i64 ((l : Nat) : Int), .bool o]) (hl : l ≤ 9223372036854775807) (n : Nat) (hn : n ≤ 9223372036854775807) : ∃ v st', Ev Tryz.prog envP 62 [.ptr mp 0 0, .int .i64 (((n : Nat) : Int))] st v st' ∧ v = .bool (mOk l o n) ∧ (mtO mp (mLeft l o n) (mOut l o n)).H st'.h.get ∧ ChgF (fun c => c = mp) st st' := by
 have B := MemO.startRow hf hr
 refine ev_fn rfl Tryz.func62 rfl Tryz.ntmps62 rfl (by decide) (by simp) fun T hT => ?_
 have K : KnT [(0, _), (1, _)] T := (.cons (hT 0) (.cons (hT 1) .nil))
 have M := B.mem
 refine w_seq <| w_region <| o1 K (os_assign rfl) rfl fun _ K => wr_nil ?_
 show W _ _ _ _ _ _ _
 refine w_seq <| w_block <| w_seq <| w_region <| o1 K (os_move rfl) rfl fun _ K => o1 K (os_lss rfl rfl) rfl fun _ K => ?_
 refine oB K (os_move rfl) rfl fun b8 _ e8 K => ?_
 cases b8
 ·replace e8 := of_decide_eq_false e8
  refine og K rfl rfl (os_move rfl) rfl fun _ K => ?_
  obtain ⟨v10, st10, ev10, rfl, q10⟩ := mOut_ev M.fresh (M.row1 (k := 0) rfl)
  refine og K rfl rfl (os_call rfl ev10) rfl fun _ K => ?_
  replace M := M.quiet q10
  refine o1 K (os_pick rfl rfl rfl) rfl fun _ K => o1 K (os_assign rfl) rfl fun _ K => wr_nil ?_
  show W _ _ _ _ _ _ _
  refine w_cond (K.opd rfl) (fun h5 => ?_) (fun h5 => ?_)
  ·have hb5 := h5
   refine w_seq <| w_region <| o1 K (os_assign rfl) rfl fun _ K => wr_nil ?_
   show W _ _ _ _ _ _ _
   refine w_ret ?_
   refine ⟨.inr rfl, _, (res_one (rs_tmp K rfl)), ?_⟩
   refine ⟨congrArg AV.bool ?_, ?_, (B.step M).chgF⟩
   ·clear M B hr K hT
    cases o <;> simp_all [mOk] <;> omega
   ·have hr9 := M.row1 (k := 0) rfl
    have e9 : ([.int .i64 ((mLeft l o n : Nat) : Int), .bool (mOut l o n)] : List AV) = [.int .i64 (((l : Nat) : Int)), .bool o] := by
     clear M B hr K hT hr9
     cases o <;> simp_all [mLeft, mOut] <;> omega
    show Row1 _ mp 0 [.int .i64 ((mLeft l o n : Nat) : Int), .bool (mOut l o n)]
    rw [e9]; exact hr9
  have hb5 := h5
  refine w_seq <| w_region <| o1 K (os_move rfl) rfl fun _ K => o1 K (os_move rfl) rfl fun _ K => o1 K (os_nil rfl rfl) rfl fun _ K => o1 K (os_fieldAddr fo_meter_Meter_0 rfl) rfl fun _ K => o1 K (os_load rfl (M.load (k := 0) rfl (part_one tk_int rfl))) rfl fun _ K => o1 K (os_gtr rfl rfl) rfl fun _ K => o1 K (os_assign rfl) rfl fun _ K => ?_
  refine wr_nil ?_
  show W _ _ _ _ _ _ _
  refine w_cond (K.opd rfl) (fun h12 => ?_) (fun h12 => ?_)
  ·have hb12 := h12
   replace h12 := of_decide_eq_true h12
   refine w_seq <| w_region <| o1 K (os_move rfl) rfl fun _ K => o1 K (os_move rfl) rfl fun _ K => o1 K (os_nil rfl rfl) rfl fun _ K => o1 K (os_fieldAddr fo_meter_Meter_0 rfl) rfl fun _ K => ?_
   refine wr_store (k := 0) K M rfl rfl rfl sz_int rfl rfl rfl fun _ M => ?_
   refine o1 K (os_nil rfl rfl) rfl fun _ K => o1 K (os_fieldAddr fo_meter_Meter_1 rfl) rfl fun _ K => ?_
   refine wr_store (k := 0) K M rfl rfl rfl sz_bool rfl rfl rfl fun _ M => ?_
   refine wr_nil ?_
   show W _ _ _ _ _ _ _
   refine w_seq <| w_region <| o1 K (os_assign rfl) rfl fun _ K => wr_nil ?_
   show W _ _ _ _ _ _ _
   refine w_ret ?_
   refine ⟨.inr rfl, _, (res_one (rs_tmp K rfl)), ?_⟩
   refine ⟨congrArg AV.bool ?_, ?_, (B.step M).chgF⟩
   ·clear M B hr K hT
    cases o <;> simp_all [mOk] <;> omega
   ·have hr9 := M.row1 (k := 0) rfl
    have e9 : ([.int .i64 ((mLeft l o n : Nat) : Int), .bool (mOut l o n)] : List AV) = [.int .i64 0, .bool true] := by
     clear M B hr K hT hr9
     cases o <;> simp_all [mLeft, mOut] <;> omega
    show Row1 _ mp 0 [.int .i64 ((mLeft l o n : Nat) : Int), .bool (mOut l o n)]
    rw [e9]; exact hr9
  have hb12 := h12
  replace h12 := of_decide_eq_false h12
  refine w_skip ?_
  show W _ _ _ _ _ _ _
  refine w_seq <| w_region <| o1 K (os_move rfl) rfl fun _ K => o1 K (os_nil rfl rfl) rfl fun _ K => o1 K (os_fieldAddr fo_meter_Meter_0 rfl) rfl fun _ K => o1 K (os_load rfl (M.load (k := 0) rfl (part_one tk_int rfl))) rfl fun _ K => o1 K (os_move rfl) rfl fun _ K => o1 K (os_sub rfl rfl (by omega) (by omega)) rfl fun _ K => o1 K (os_nil rfl rfl) rfl fun _ K => ?_
  refine o1 K (os_fieldAddr fo_meter_Meter_0 rfl) rfl fun _ K => ?_
  refine wr_store (k := 0) K M rfl rfl rfl sz_int rfl rfl rfl fun _ M => ?_
  refine wr_nil ?_
  show W _ _ _ _ _ _ _
  refine w_seq <| w_region <| o1 K (os_assign rfl) rfl fun _ K => wr_nil ?_
  show W _ _ _ _ _ _ _
  refine w_ret ?_
  refine ⟨.inr rfl, _, (res_one (rs_tmp K rfl)), ?_⟩
  refine ⟨congrArg AV.bool ?_, ?_, (B.step M).chgF⟩
  ·clear M B hr K hT
   cases o <;> simp_all [mOk] <;> omega
  ·have hr9 := M.row1 (k := 0) rfl
   have e9 : ([.int .i64 ((mLeft l o n : Nat) : Int), .bool (mOut l o n)] : List AV) = [.int .i64 ((((l : Nat) : Int) - ((n : Nat) : Int))), .bool o] := by
    clear M B hr K hT hr9
    cases o <;> simp_all [mLeft, mOut] <;> omega
   show Row1 _ mp 0 [.int .i64 ((mLeft l o n : Nat) : Int), .bool (mOut l o n)]
   rw [e9]; exact hr9
 replace e8 := of_decide_eq_true e8
 refine gn K rfl rfl rfl rfl fun _ K => gn K rfl rfl rfl rfl fun _ K => o1 K (os_pick rfl rfl rfl) rfl fun _ K => o1 K (os_assign rfl) rfl fun _ K => wr_nil ?_
 show W _ _ _ _ _ _ _
 refine w_cond (t := true) (K.opd rfl) (fun _ => ?_) (fun h => by cases h)
 refine w_seq <| w_region <| o1 K (os_assign rfl) rfl fun _ K => wr_nil ?_
 show W _ _ _ _ _ _ _
 refine w_ret ?_
 refine ⟨.inr rfl, _, (res_one (rs_tmp K rfl)), ?_⟩
 refine ⟨congrArg AV.bool ?_, ?_, (B.step M).chgF⟩
 ·clear M B hr K hT
  cases o <;> simp_all [mOk] <;> omega
 ·have hr9 := M.row1 (k := 0) rfl
  have e9 : ([.int .i64 ((mLeft l o n : Nat) : Int), .bool (mOut l o n)] : List AV) = [.int .i64 (((l : Nat) : Int)), .bool o] := by
   clear M B hr K hT hr9
   cases o <;> simp_all [mLeft, mOut] <;> omega
  show Row1 _ mp 0 [.int .i64 ((mLeft l o n : Nat) : Int), .bool (mOut l o n)]
  rw [e9]; exact hr9
end Go.Proofs.YtiknomepbklibaaGreatDoor
