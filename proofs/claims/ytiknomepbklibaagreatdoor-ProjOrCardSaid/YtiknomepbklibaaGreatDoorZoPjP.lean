/-
  What was done: the reference's meter; a state that comes.
-/
import Derived.Test.YtiknomepbklibaaGreatDoorZoMtA
import Derived.Test.YtiknomepbklibaaGreatDoorZoAm
section
namespace Go.Proofs.YtiknomepbklibaaGreatDoor
open Go Go.RowKit
set_option linter.unusedVariables false
set_option linter.unusedSimpArgs false
set_option linter.unnecessarySimpa false
set_option maxRecDepth 100000
set_option maxHeartbeats 1000000

theorem rmNew_ev {st : St} (hf : Fresh st) (n : Int) : ∃ v st', Ev Tryz.prog envP 46 [.int .i64 n] st v st' ∧ ∃ mp, v = .ptr mp 0 0 ∧ st.n ≤ mp ∧ Row1 st'.h.get mp 0 [.int .i64 ((n.toNat : Nat) : Int), .bool false] ∧ Qt st st' := by
 refine ev_fn rfl Tryz.func46 rfl Tryz.ntmps46 rfl (by decide) (by simp) fun T hT => ?_
 have K : KnT [(0, _)] T := (.cons (hT 0) .nil)
 have M := Mem.start hf
 refine w_seq <| w_region <| o1 K (os_assign rfl) rfl fun _ K => wr_nil ?_
 show W _ _ _ _ _ _ _
 refine w_seq <| w_region <| o1 K (os_move rfl) rfl fun _ K => o1 K (os_max rfl rfl) rfl fun _ K => o1 K (os_build st_sibylref13_Meter rfl rfl) rfl fun _ K => ?_
 refine wr_box K M rfl rfl (by decide) fun c6 _ _ K M => ?_
 refine o1 K (os_assign rfl) rfl fun _ K => wr_nil ?_
 show W _ _ _ _ _ _ _
 refine w_ret ?_
 refine ⟨.inr rfl, _, (res_one (rs_tmp K rfl)), ?_⟩
 refine ⟨c6, rfl, (M.own c6 0 _ (List.mem_cons_self ..)).resolve_right (by simp), ?_, M.qt⟩
 have hr9 := M.row1 (k := 0) rfl
 rwa [show max 0 n = ((n.toNat : Nat) : Int) by omega] at hr9

theorem rmSpend_ev {st : St} (hf : Fresh st) {mp l : Nat} {o : Bool} (hr : Row1 st.h.get mp 0 [.int .i64 ((l : Nat) : Int), .bool o]) (hl : l ≤ 9223372036854775807) (n : Nat) (hn : n ≤ 9223372036854775807) : ∃ v st', Ev Tryz.prog envP 72 [.ptr mp 0 0, .int .i64 (((n : Nat) : Int))] st v st' ∧ v = .bool (mOk l o n) ∧ (mtO mp (mLeft l o n) (mOut l o n)).H st'.h.get ∧ ChgF (fun c => c = mp) st st' := by
 have B := MemO.startRow hf hr
 refine ev_fn rfl Tryz.func72 rfl Tryz.ntmps72 rfl (by decide) (by simp) fun T hT => ?_
 have K : KnT [(0, _), (1, _)] T := (.cons (hT 0) (.cons (hT 1) .nil))
 have M := B.mem
 refine w_seq <| w_region <| o1 K (os_assign rfl) rfl fun _ K => wr_nil ?_
 show W _ _ _ _ _ _ _
 refine w_seq <| w_seq <| w_region <| o1 K (os_move rfl) rfl fun _ K => o1 K (os_lss rfl rfl) rfl fun _ K => ?_
 refine oB K (os_move rfl) rfl fun b7 _ e7 K => ?_
 cases b7
 ·replace e7 := of_decide_eq_false e7
  refine og K rfl rfl (os_move rfl) rfl fun _ K => og K rfl rfl (os_nil rfl rfl) rfl fun _ K => og K rfl rfl (os_fieldAddr fo_sibylref13_Meter_1 rfl) rfl fun _ K => og K rfl rfl (os_load rfl (M.load (k := 0) rfl (part_one tk_bool rfl))) rfl fun _ K => o1 K (os_pick rfl rfl rfl) rfl fun _ K => wr_nil ?_
  show W _ _ _ _ _ _ _
  refine w_cond (K.opd rfl) (fun h12 => ?_) (fun h12 => ?_)
  ·have hb12 := h12
   refine w_seq <| w_region <| o1 K (os_assign rfl) rfl fun _ K => wr_nil ?_
   show W _ _ _ _ _ _ _
   refine w_ret ?_
   refine ⟨.inr rfl, _, (res_one (rs_tmp K rfl)), ?_⟩
   refine ⟨congrArg AV.bool ?_, ?_, (B.step M).chgF⟩
   ·clear M B hr K hT
    cases o <;> simp_all [mOk] <;> omega
   ·have hr9 := M.row1 (k := 0) rfl
    have e9 : ([.int .i64 ((mLeft l o n : Nat) : Int), .bool (mOut l o n)] : List AV) = [.int .i64 (((l : Nat) : Int)), .bool o] := by
     clear M B hr K hT hr9
     cases o <;> simp_all [mLeft, mOut] <;> omega
    show Row1 _ mp 0 [.int .i64 ((mLeft l o n : Nat) : Int), .bool (mOut l o n)]
    rw [e9]; exact hr9
  have hb12 := h12
  refine w_skip ?_
  show W _ _ _ _ _ _ _
  refine w_seq <| w_seq <| w_region <| o1 K (os_move rfl) rfl fun _ K => o1 K (os_move rfl) rfl fun _ K => o1 K (os_nil rfl rfl) rfl fun _ K => o1 K (os_fieldAddr fo_sibylref13_Meter_0 rfl) rfl fun _ K => o1 K (os_load rfl (M.load (k := 0) rfl (part_one tk_int rfl))) rfl fun _ K => o1 K (os_gtr rfl rfl) rfl fun _ K => ?_
  refine wr_nil ?_
  show W _ _ _ _ _ _ _
  refine w_cond (K.opd rfl) (fun h18 => ?_) (fun h18 => ?_)
  ·have hb18 := h18
   replace h18 := of_decide_eq_true h18
   refine w_seq <| w_region <| o1 K (os_move rfl) rfl fun _ K => o1 K (os_move rfl) rfl fun _ K => o1 K (os_nil rfl rfl) rfl fun _ K => o1 K (os_fieldAddr fo_sibylref13_Meter_0 rfl) rfl fun _ K => ?_
   refine wr_store (k := 0) K M rfl rfl rfl sz_int rfl rfl rfl fun _ M => ?_
   refine o1 K (os_nil rfl rfl) rfl fun _ K => o1 K (os_fieldAddr fo_sibylref13_Meter_1 rfl) rfl fun _ K => ?_
   refine wr_store (k := 0) K M rfl rfl rfl sz_bool rfl rfl rfl fun _ M => ?_
   refine wr_nil ?_
   show W _ _ _ _ _ _ _
   refine w_seq <| w_region <| o1 K (os_assign rfl) rfl fun _ K => wr_nil ?_
   show W _ _ _ _ _ _ _
   refine w_ret ?_
   refine ⟨.inr rfl, _, (res_one (rs_tmp K rfl)), ?_⟩
   refine ⟨congrArg AV.bool ?_, ?_, (B.step M).chgF⟩
   ·clear M B hr K hT
    cases o <;> simp_all [mOk] <;> omega
   ·have hr9 := M.row1 (k := 0) rfl
    have e9 : ([.int .i64 ((mLeft l o n : Nat) : Int), .bool (mOut l o n)] : List AV) = [.int .i64 0, .bool true] := by
     clear M B hr K hT hr9
     cases o <;> simp_all [mLeft, mOut] <;> omega
    show Row1 _ mp 0 [.int .i64 ((mLeft l o n : Nat) : Int), .bool (mOut l o n)]
    rw [e9]; exact hr9
  have hb18 := h18
  replace h18 := of_decide_eq_false h18
  refine w_skip ?_
  show W _ _ _ _ _ _ _
  refine w_seq <| w_region <| o1 K (os_move rfl) rfl fun _ K => o1 K (os_move rfl) rfl fun _ K => o1 K (os_nil rfl rfl) rfl fun _ K => o1 K (os_fieldAddr fo_sibylref13_Meter_0 rfl) rfl fun _ K => o1 K (os_load rfl (M.load (k := 0) rfl (part_one tk_int rfl))) rfl fun _ K => o1 K (os_move rfl) rfl fun _ K => o1 K (os_sub rfl rfl (by omega) (by omega)) rfl fun _ K => ?_
  refine o1 K (os_nil rfl rfl) rfl fun _ K => o1 K (os_fieldAddr fo_sibylref13_Meter_0 rfl) rfl fun _ K => ?_
  refine wr_store (k := 0) K M rfl rfl rfl sz_int rfl rfl rfl fun _ M => ?_
  refine wr_nil ?_
  show W _ _ _ _ _ _ _
  refine w_seq <| w_region <| o1 K (os_assign rfl) rfl fun _ K => wr_nil ?_
  show W _ _ _ _ _ _ _
  refine w_ret ?_
  refine ⟨.inr rfl, _, (res_one (rs_tmp K rfl)), ?_⟩
  refine ⟨congrArg AV.bool ?_, ?_, (B.step M).chgF⟩
  ·clear M B hr K hT
   cases o <;> simp_all [mOk] <;> omega
  ·have hr9 := M.row1 (k := 0) rfl
   have e9 : ([.int .i64 ((mLeft l o n : Nat) : Int), .bool (mOut l o n)] : List AV) = [.int .i64 ((((l : Nat) : Int) - ((n : Nat) : Int))), .bool o] := by
    clear M B hr K hT hr9
    cases o <;> simp_all [mLeft, mOut] <;> omega
   show Row1 _ mp 0 [.int .i64 ((mLeft l o n : Nat) : Int), .bool (mOut l o n)]
   rw [e9]; exact hr9
 replace e7 := of_decide_eq_true e7
 refine gn K rfl rfl rfl rfl fun _ K => gn K rfl rfl rfl rfl fun _ K => gn K rfl rfl rfl rfl fun _ K => gn K rfl rfl rfl rfl fun _ K => o1 K (os_pick rfl rfl rfl) rfl fun _ K => wr_nil ?_
 show W _ _ _ _ _ _ _
 refine w_cond (t := true) (K.opd rfl) (fun _ => ?_) (fun h => by cases h)
 refine w_seq <| w_region <| o1 K (os_assign rfl) rfl fun _ K => wr_nil ?_
 show W _ _ _ _ _ _ _
 refine w_ret ?_
 refine ⟨.inr rfl, _, (res_one (rs_tmp K rfl)), ?_⟩
 refine ⟨congrArg AV.bool ?_, ?_, (B.step M).chgF⟩
 ·clear M B hr K hT
  cases o <;> simp_all [mOk] <;> omega
 ·have hr9 := M.row1 (k := 0) rfl
  have e9 : ([.int .i64 ((mLeft l o n : Nat) : Int), .bool (mOut l o n)] : List AV) = [.int .i64 (((l : Nat) : Int)), .bool o] := by
   clear M B hr K hT hr9
   cases o <;> simp_all [mLeft, mOut] <;> omega
  show Row1 _ mp 0 [.int .i64 ((mLeft l o n : Nat) : Int), .bool (mOut l o n)]
  rw [e9]; exact hr9

theorem rmSpend1_ev {st : St} (hf : Fresh st) {mp l : Nat} (hr : Row1 st.h.get mp 0 [.int .i64 ((l : Nat) : Int), .bool false]) (hl : l ≤ 9223372036854775807) (n : Nat) (hn : n ≤ l) : ∃ v st', Ev Tryz.prog envP 72 [.ptr mp 0 0, .int .i64 ((n : Nat) : Int)] st v st' ∧ v = .bool true ∧ (mtO mp (l - n) false).H st'.h.get ∧ ChgF (fun c => c = mp) st st' := by
 obtain ⟨v, st', h1, h2, h3, h4⟩ := rmSpend_ev hf hr hl n (by omega)
 exact ⟨v, st', h1, by rw [h2, mOk_yes hn], by rw [mOut_yes hn] at h3; exact h3, h4⟩

theorem r20Spend_ev {st : St} (hf : Fresh st) {mp l : Nat} (hr : Row1 st.h.get mp 0 [.int .i64 ((l : Nat) : Int), .bool false]) (hl1 : 1 ≤ l) (hl : l ≤ 9223372036854775807) (n : Nat) : ∃ v st', Ev Tryz.prog envP 44 [.ptr mp 0 0, .int .i64 (((n : Nat) : Int))] st v st' ∧ v = .bool (decide ((n : Int) ≤ 400)) ∧ (mtO mp (l - 1) false).H st'.h.get ∧ ChgF (fun c => c = mp) st st' := by
 have B := MemO.startO (o := mtO mp l false) hf hr (fun c hc => (show c = mp from hc) ▸ hr.lt hf)
 refine ev_fn rfl Tryz.func44 rfl Tryz.ntmps44 rfl (by decide) (by simp) fun T hT => ?_
 have K : KnT [(0, _), (1, _)] T := (.cons (hT 0) (.cons (hT 1) .nil))
 have M := B.mem
 refine w_seq <| w_region <| o1 K (os_assign rfl) rfl fun _ K => wr_nil ?_
 show W _ _ _ _ _ _ _
 refine w_seq <| w_region <| o1 K (os_move rfl) rfl fun _ K => ?_
 replace B := B.step M
 obtain ⟨v6, st6, ev6, rfl, hm3, Q3⟩ := rmSpend1_ev B.fresh (B.at_ (k := 0) rfl) hl 1 hl1
 refine o1 K (os_call rfl ev6) rfl fun _ K => ?_
 replace B := B.call (k := 0) (o' := mtO mp (l - 1) false) rfl Q3 hm3 (fun c hc => ⟨.inl hc, Nat.lt_of_lt_of_le (B.hi_ (k := 0) rfl c hc) Q3.le⟩)
 have M := B.mem
 refine o1 K (os_move rfl) rfl fun _ K => og K rfl rfl (os_move rfl) rfl fun _ K => og K rfl rfl (os_leq rfl rfl) rfl fun _ K => o1 K (os_pick rfl rfl rfl) rfl fun _ K => o1 K (os_assign rfl) rfl fun _ K => wr_nil ?_
 show W _ _ _ _ _ _ _
 refine w_ret ?_
 refine ⟨.inr rfl, _, (res_one (rs_tmp K rfl)), ?_⟩
 replace B := B.step M
 exact ⟨rfl, B.at_ (k := 0) rfl, B.chgF⟩

theorem free22_ev {st : St} (hf : Fresh st) : ∃ v st', Ev Tryz.prog envP 15 [] st v st' ∧ ∃ mp, v = .ptr mp 0 0 ∧ st.n ≤ mp ∧ Row1 st'.h.get mp 0 [.int .i64 ((1073741824 : Nat) : Int), .bool false] ∧ Qt st st' := by
 refine ev_fn rfl Tryz.func15 rfl Tryz.ntmps15 rfl (by decide) (by simp) fun T hT => ?_
 have K : KnT [] T := .nil
 have M := Mem.start hf
 refine w_seq <| w_region <| o1 K (os_assign rfl) rfl fun _ K => wr_nil ?_
 show W _ _ _ _ _ _ _
 refine w_seq <| w_region ?_
 obtain ⟨v1, st1, ev1, mp, rfl, hmp, hmr, q1⟩ := rmNew_ev M.fresh 1073741824
 refine o1 K (os_call rfl ev1) rfl fun _ K => ?_
 have hle0 := M.le
 have hmr0 := hmr
 refine o1 K (os_assign rfl) rfl fun _ K => wr_nil ?_
 show W _ _ _ _ _ _ _
 refine w_ret ?_
 refine ⟨.inr rfl, _, (res_one (rs_tmp K rfl)), ?_⟩
 exact ⟨mp, rfl, hmp, hmr, q1⟩
end Go.Proofs.YtiknomepbklibaaGreatDoor
end
section
namespace Go.Proofs.YtiknomepbklibaaGreatDoor
set_option linter.unusedVariables false

/-- Behind more letters of the track, or none, it accepts. -/
inductive ClP (a : Au) (k : Nat) : Nat → Prop
  | acc {s : Nat} (h : a.ok s = true) : ClP a k s
  | low {s : Nat} (h : ClP a k (a.go s 0)) : ClP a k s
  | high {s : Nat} (h : ClP a k (a.go s (2 ^ k))) : ClP a k s
def bvl (l : List Bool) (s : Nat) : Bool := (l[s]?).getD false
structure ClAcc (a : Au) (k : Nat) (l : List Bool) : Prop where
 len : l.length = a.n
 iff : ∀ s, s < a.n → (bvl l s = true ↔ ClP a k s)
theorem go_row {a : Au} {s c : Nat} {r : List Int} {z : Int} (h1 : a.nx[s]? = some r) (h2 : r[c]? = some z) : a.go s c = z.toNat := by
 unfold Au.go; rw [h1, Option.getD_some, h2, Option.getD_some]
def falses (l : List Bool) : Nat := l.countP fun b => !b
theorem falses_set : ∀ {l : List Bool} {j : Nat}, l[j]? = some false → falses (l.set j true) + 1 = falses l
 | [], j, h => by simp at h
 | b :: l, 0, h => by
  injection h with h
  subst h
  rw [List.set_cons_zero, falses, falses, List.countP_cons, List.countP_cons]
  simp
 | b :: l, j + 1, h => by
  have := falses_set (l := l) (j := j) h
  rw [List.set_cons_succ, falses, falses, List.countP_cons, List.countP_cons]
  rw [falses, falses] at this
  omega
theorem bvl_set {l : List Bool} {j s : Nat} {b : Bool} (hj : j < l.length) : bvl (l.set j b) s = if s = j then b else bvl l s := by
 unfold bvl
 rw [List.getElem?_set]
 by_cases h : j = s
 ·subst h
  rw [if_pos rfl, if_pos hj, if_pos rfl]; rfl
 ·rw [if_neg h, if_neg fun e => h e.symm]
theorem bvl_at {l : List Bool} {s : Nat} {b : Bool} (h : l[s]? = some b) : bvl l s = b := by unfold bvl; rw [h]; rfl
structure CInv (a : Au) (k : Nat) (l : List Bool) : Prop where
 len : l.length = a.n
 sound : ∀ s, s < a.n → bvl l s = true → ClP a k s
 ext : ∀ s, s < a.n → a.ok s = true → bvl l s = true
theorem CInv.start (a : Au) (k : Nat) : CInv a k a.acc := ⟨rfl, fun s _ h => .acc h, fun s _ h => h⟩
theorem CInv.set {a : Au} {k s : Nat} {l : List Bool} (h : CInv a k l) (hs : s < a.n) (h0 : a.go s 0 < a.n) (h1 : a.go s (2 ^ k) < a.n) (hb : bvl l (a.go s 0) = true ∨ bvl l (a.go s (2 ^ k)) = true) : CInv a k (l.set s true) := by
 have hl : s < l.length := by rw [h.len]; exact hs
 refine ⟨by rw [List.length_set]; exact h.len, fun t ht e => ?_, fun t ht e => ?_⟩
 ·rw [bvl_set hl] at e
  by_cases hts : t = s
  ·subst hts
   rcases hb with hb | hb
   ·exact .low (h.sound _ h0 hb)
   ·exact .high (h.sound _ h1 hb)
  ·rw [if_neg hts] at e
   exact h.sound t ht e
 ·rw [bvl_set hl]
  split
  ·rfl
  ·exact h.ext t ht e
def Shut (a : Au) (k : Nat) (l : List Bool) (s : Nat) : Prop := bvl l (a.go s 0) = true ∨ bvl l (a.go s (2 ^ k)) = true → bvl l s = true
theorem CInv.done {a : Au} {k : Nat} {l : List Bool} (h : CInv a k l) (W : WFA a) (hk : 2 ^ k < a.K) (hc : ∀ s, s < a.n → Shut a k l s) : ClAcc a k l := by
 refine ⟨h.len, fun s hs => ⟨h.sound s hs, fun hp => ?_⟩⟩
 have hK : 0 < a.K := Nat.two_pow_pos _
 induction hp with
 | acc e => exact h.ext _ hs e
 | low _ ih => exact hc _ hs (.inl (ih (W.go_lt hs hK)))
 | high _ ih => exact hc _ hs (.inr (ih (W.go_lt hs hk)))
/-- Within a round. -/
structure CIn (a : Au) (k : Nat) (l0 l : List Bool) (more : Bool) (s : Nat) : Prop where
  inv : CInv a k l
  le : falses l ≤ falses l0
  yes : more = true → falses l < falses l0
  no : more = false → l = l0 ∧ ∀ t, t < s → Shut a k l t
theorem CIn.start {a : Au} {k : Nat} {l : List Bool} (h : CInv a k l) : CIn a k l l false 0 := ⟨h, Nat.le_refl _, fun e => (by cases e), fun _ => ⟨rfl, fun t ht => absurd ht (Nat.not_lt_zero t)⟩⟩
theorem CIn.keep {a : Au} {k s : Nat} {l0 l : List Bool} {more : Bool} (h : CIn a k l0 l more s) (hc : Shut a k l s) : CIn a k l0 l more (s + 1) :=
 ⟨h.inv, h.le, h.yes, fun e => ⟨(h.no e).1, fun t ht => by
  rcases Nat.lt_succ_iff_lt_or_eq.1 ht with h1 | rfl
  ·exact (h.no e).2 t h1
  ·exact hc⟩⟩
theorem CIn.set {a : Au} {k s : Nat} {l0 l : List Bool} {more : Bool} (h : CIn a k l0 l more s) (hs : s < a.n) (h0 : a.go s 0 < a.n) (h1 : a.go s (2 ^ k) < a.n) (hf : l[s]? = some false) (hb : bvl l (a.go s 0) = true ∨ bvl l (a.go s (2 ^ k)) = true) : CIn a k l0 (l.set s true) true (s + 1) := by
 have := falses_set hf
 have := h.le
 exact ⟨h.inv.set hs h0 h1 hb, by omega, fun _ => by omega, fun e => (by cases e)⟩
/-- What is measured at a round's beginning. -/
def cMeas (l : List Bool) (more : Bool) : Nat := 2 * falses l + (if more then 1 else 0)
theorem CIn.meas {a : Au} {k s : Nat} {l0 l : List Bool} {more : Bool} (h : CIn a k l0 l more s) : cMeas l more < cMeas l0 true := by
 unfold cMeas
 rw [if_pos rfl]
 cases more with
 | true => have := h.yes rfl; rw [if_pos rfl]; omega
 | false => have := h.le; rw [if_neg (by decide)]; omega
end Go.Proofs.YtiknomepbklibaaGreatDoor
end
