/-
  The laws of chapter 22: words with a track's bits; are some accepted?
-/
import Derived.Test.YtiknomepbklibaaDoorQtPrJ
import Derived.Test.YtiknomepbklibaaDoorQtPtP
import Derived.Test.YtiknomepbklibaaDoorQtPjl
namespace Go.Proofs.YtiknomepbklibaaDoor
open Go Go.RowKit
set_option linter.unusedVariables false
set_option linter.unusedSimpArgs false
set_option linter.unnecessarySimpa false
set_option maxRecDepth 100000
set_option maxHeartbeats 4000000

def putU (k : Nat) (w : List Nat) (bs : List Bool) (i : Nat) : List Nat := (List.range i).map fun j => putL k (lt0 w j) (bit0 bs j)
theorem putU_succ (k : Nat) (w : List Nat) (bs : List Bool) (i : Nat) : putU k w bs (i + 1) = putU k w bs i ++ [putL k (lt0 w i) (bit0 bs i)] := by unfold putU; rw [List.range_succ, List.map_append]; rfl
theorem putU_len (k : Nat) (w : List Nat) (bs : List Bool) (i : Nat) : (putU k w bs i).length = i := by simp [putU]
theorem lt0_at {w : List Nat} {i y : Nat} (h : w[i]? = some y) : lt0 w i = y := by unfold lt0; rw [h]; rfl
theorem bit0_at {bs : List Bool} {i : Nat} {y : Bool} (h : bs[i]? = some y) : bit0 bs i = if y then 1 else 0 := by unfold bit0; rw [bvl_at h]
theorem bit0_off {bs : List Bool} {i : Nat} (h : bs.length ≤ i) : bit0 bs i = 0 := by unfold bit0 bvl; rw [List.getElem?_eq_none h]; rfl
theorem put_orS {k c u : Nat} (hu : u ≤ 1) : (c % 2 ^ k + u * 2 ^ k) ||| c / 2 ^ k * 2 ^ (k + 1) = putL k c u := by rw [← put_orU hu, put_orUU hu]
theorem zN_len (l : List Nat) : (zN l).length = l.length := by simp [zN]
/-- Truths that tell a set. -/
def VecS (n : Nat) (l : List Bool) (S : List Int) : Prop := l.length = n ∧ ∀ s, s < n → (bvl l s = true ↔ ((s : Nat) : Int) ∈ S)
theorem VecS.zero {n : Nat} (h : 0 < n) : VecS n ((List.replicate n false).set 0 true) [0] := by
 refine ⟨by simp, fun s hs => ?_⟩
 rw [bvl_set (by simpa using h)]
 by_cases e : s = 0
 ·simp [e]
 ·rw [if_neg e, List.mem_singleton]
  unfold bvl
  rw [List.getElem?_replicate, if_pos hs]
  simp [e]
/-- Next ones of the first states. -/
def VecN (a : Au) (k c : Nat) (now nxt : List Bool) (j : Nat) : Prop := nxt.length = a.n ∧ ∀ s, s < a.n → (bvl nxt s = true ↔ ∃ t, t < j ∧ bvl now t = true ∧ ∃ u, u ≤ 1 ∧ s = a.go t (putL k c u))
theorem VecN.zero (a : Au) (k c : Nat) (now : List Bool) : VecN a k c now (List.replicate a.n false) 0 := ⟨by simp, fun s hs => by
 unfold bvl
 rw [List.getElem?_replicate, if_pos hs]
 simp⟩
theorem VecN.no {a : Au} {k c j : Nat} {now nxt : List Bool} (H : VecN a k c now nxt j) (h : bvl now j = false) : VecN a k c now nxt (j + 1) := ⟨H.1, fun s hs => (H.2 s hs).trans ⟨fun ⟨t, h1, h2⟩ => ⟨t, by omega, h2⟩, fun ⟨t, h1, h2, h3⟩ => ⟨t, by
 by_cases e : t = j
 ·subst e; rw [h] at h2; cases h2
 ·omega, h2, h3⟩⟩⟩
theorem VecN.yes {a : Au} {k c j x0 x1 : Nat} {now nxt : List Bool} (H : VecN a k c now nxt j) (h : bvl now j = true) (h0 : a.go j (putL k c 0) = x0) (h1 : a.go j (putL k c 1) = x1) (l0 : x0 < a.n) (l1 : x1 < a.n) : VecN a k c now ((nxt.set x0 true).set x1 true) (j + 1) := by
 refine ⟨by simp [H.1], fun s hs => ?_⟩
 rw [bvl_set (by rw [List.length_set, H.1]; exact l1), bvl_set (by rw [H.1]; exact l0)]
 have e : (∃ t, t < j + 1 ∧ bvl now t = true ∧ ∃ u, u ≤ 1 ∧ s = a.go t (putL k c u)) ↔ (∃ t, t < j ∧ bvl now t = true ∧ ∃ u, u ≤ 1 ∧ s = a.go t (putL k c u)) ∨ s = x0 ∨ s = x1 := by
  constructor
  ·rintro ⟨t, k1, k2, u, k3, k4⟩
   by_cases e : t = j
   ·subst e
    have : u = 0 ∨ u = 1 := by omega
    rcases this with rfl | rfl
    ·exact .inr (.inl (k4.trans h0))
    ·exact .inr (.inr (k4.trans h1))
   ·exact .inl ⟨t, by omega, k2, u, k3, k4⟩
  ·rintro (⟨t, k1, k2⟩ | k1 | k1)
   ·exact ⟨t, by omega, k2⟩
   ·exact ⟨j, by omega, h, 0, by decide, k1.trans h0.symm⟩
   ·exact ⟨j, by omega, h, 1, by decide, k1.trans h1.symm⟩
 rw [e, ← H.2 s hs]
 by_cases e1 : s = x1
 ·simp [e1]
 ·by_cases e0 : s = x0
  ·simp [e0]
  ·simp [e0, e1]
theorem VecN.done {a : Au} {k c : Nat} {now nxt : List Bool} {S : List Int} (H : VecN a k c now nxt a.n) (hS : VecS a.n now S) (hs : ∀ z ∈ S, 0 ≤ z ∧ z < ((a.n : Nat) : Int)) : VecS a.n nxt (stepS a k S c) := by
 refine ⟨H.1, fun s h => (H.2 s h).trans ?_⟩
 rw [mem_stepS]
 constructor
 ·rintro ⟨t, k1, k2, u, k3, k4⟩
  exact ⟨((t : Nat) : Int), (hS.2 t k1).1 k2, u, k3, by rw [Int.toNat_natCast, ← k4]⟩
 ·rintro ⟨z, k1, u, k3, k4⟩
  have hz := hs z k1
  refine ⟨z.toNat, by omega, (hS.2 z.toNat (by omega)).2 (by rw [Int.toNat_of_nonneg hz.1]; exact k1), u, k3, by omega⟩
theorem no_more {a : Au} {now : List Bool} {S : List Int} (hvec : VecS a.n now S) (hS : ∀ z ∈ S, 0 ≤ z ∧ z < ((a.n : Nat) : Int)) {b : Bool} (hb : (∃ s, s < a.n ∧ bvl now s = true ∧ a.ok s = true) → b = true) (h : b = false) : ∀ z ∈ S, a.ok z.toNat = false := fun z hz => by
 have hz' := hS z hz
 cases ho : a.ok z.toNat with
 | false => rfl
 | true =>
  have := hb ⟨z.toNat, by omega, (hvec.2 z.toNat (by omega)).2 (by rw [Int.toNat_of_nonneg hz'.1]; exact hz), ho⟩
  rw [h] at this; cases this

theorem put_hi {c k : Nat} (h : c ≤ 64) : c / 2 ^ k * 2 ^ (k + 1) ≤ 9223372036854775807 := by
 have h1 : c / 2 ^ k * 2 ^ k ≤ c := Nat.div_mul_le_self c (2 ^ k)
 rw [Nat.pow_succ, ← Nat.mul_assoc]
 omega

theorem put22_ev {st : St} (hf : Fresh st) {w : List Nat} {kw : AV} (hw : RdR st.h.get [] 1 (zC (zN w)) kw) (hwb : ∀ c ∈ w, c ≤ 64) {bs : List Bool} {kb : AV} (hb : RdR st.h.get [] 1 (bC bs) kb) (hwl : w.length ≤ 100) (hbl : bs.length ≤ 100) {k : Nat} (hk : k ≤ 6) : ∃ v st', Ev Tryd.prog envP 19 [kw, kb, .int .i64 (((k : Nat) : Int))] st v st' ∧ ∃ kr, v = kr ∧ NewR st st' 1 kr (zC (zN (putW k w bs))) ∧ Qt st st' := by
 have hp6 := pow_le64 hk; have hp0 : 0 < 2 ^ k := Nat.two_pow_pos k
 have hwc := hw.cell; have hbc := hb.cell; have hlz : 0 % 2 ^ k = 0 := Nat.zero_mod _
 refine ev_fn rfl Tryd.func19 rfl Tryd.ntmps19 rfl (by decide) (by simp) fun T hT => ?_
 have K : KnT [(0, _), (1, _), (2, _)] T := (.cons (hT 0) (.cons (hT 1) (.cons (hT 2) .nil)))
 have M := Mem.start hf
 refine w_seq <| w_region <| o1 K (os_assign rfl) rfl fun _ K => wr_nil ?_
 show W _ _ _ _ _ _ _
 refine w_seq <| w_region <| o1 K (os_assign rfl) rfl fun _ K => wr_nil ?_
 show W _ _ _ _ _ _ _
 refine w_seq <| w_seq <| w_region <| o1 K (os_assign rfl) rfl fun _ K => wr_nil ?_
 show W _ _ _ _ _ _ _
 refine w_block ?_
 refine w_loop (fun mm1 T st9 => ∃ (i : Nat) (kr : AV) (A : Rows1), mm1 = max w.length bs.length - i ∧ KnT [(0, kw), (1, kb), (2, .int .i64 (((k : Nat) : Int))), (6, .nils), (7, kr), (8, .int .i64 (((i : Nat) : Int)))] T ∧ Mem st.h.get st.n [] st9 (A ++ []) ∧ i ≤ max w.length bs.length ∧ Acc st.n 1 A kr (zC (zN (putU k w bs i)))) (fun mm1 T st9 hI => ?_) _ _ _ ⟨0, .nils, [], rfl, (.cons (K _ _ rfl) (.cons (K _ _ rfl) (.cons (K _ _ rfl) (.cons (K _ _ rfl) (.cons (K _ _ rfl) (.cons (K _ _ rfl) .nil)))))), M.less (.refl _), (Nat.zero_le _), .none⟩
 obtain ⟨i, kr, A, rfl, K, M, hi, hA⟩ := hI
 refine w_seq <| w_seq <| w_region <| o1 K (os_move rfl) rfl fun _ K => o1 K (os_move rfl) rfl fun _ K => o1 K (os_lenL un_S_int rfl rfl (hw.len.trans (congrArg some (by rw [zC_len, List.length_map])))) rfl fun _ K => o1 K (os_lss rfl rfl) rfl fun _ K => ?_
 refine oB K (os_move rfl) rfl fun b16 _ e16 K => ?_
 cases b16
 ·replace e16 := of_decide_eq_false e16
  refine og K rfl rfl (os_move rfl) rfl fun _ K => og K rfl rfl (os_move rfl) rfl fun _ K => og K rfl rfl (os_lenL un_S_bool rfl rfl (hb.len.trans (congrArg some (bC_len _)))) rfl fun _ K => og K rfl rfl (os_lss rfl rfl) rfl fun _ K => o1 K (os_pick rfl rfl rfl) rfl fun _ K => wr_nil ?_
  show W _ _ _ _ _ _ _
  refine w_cond (K.opd rfl) (fun h21 => ?_) (fun h21 => ?_)
  ·have hb21 := h21
   replace h21 := of_decide_eq_true h21
   refine w_skip ?_
   show W _ _ _ _ _ _ _
   refine w_seq <| w_block <| w_seq <| w_region <| o1 K (os_assign rfl) rfl fun _ K => o1 K (os_assign rfl) rfl fun _ K => wr_nil ?_
   show W _ _ _ _ _ _ _
   refine w_seq <| w_seq <| w_region <| o1 K (os_move rfl) rfl fun _ K => o1 K (os_move rfl) rfl fun _ K => o1 K (os_lenL un_S_int rfl rfl (hw.len.trans (congrArg some (by rw [zC_len, List.length_map])))) rfl fun _ K => o1 K (os_lss rfl rfl) rfl fun _ K => wr_nil ?_
   show W _ _ _ _ _ _ _
   refine w_cond (K.opd rfl) (fun h27 => ?_) (fun h27 => ?_)
   ·have hb27 := h27
    replace h27 := of_decide_eq_true h27
    refine w_region <| o1 K (os_move rfl) rfl fun _ K => o1 K (os_move rfl) rfl fun _ K => ?_
    obtain ⟨y30, hi30⟩ : ∃ x, w[i]? = some x := ⟨_, List.getElem?_eq_getElem (by omega)⟩
    obtain ⟨x30, m30, f30, q30, _, la30, lo30, lp30⟩ := (RdR.mem M hw (by simp)).load (i := i) (cs := _) (zN_get hi30)
    refine o1 K (os_indexAddr (j := i) el_S_int (congrArg some q30) rfl (by rw [zC_len, List.length_map]; omega)) rfl fun _ K => o1 K (os_load rfl (lo30 _ 0 _ tk_int rfl)) rfl fun _ K => o1 K (os_assign rfl) rfl fun _ K => wr_nil ?_
    show W _ _ _ _ _ _ _
    refine w_seq <| w_seq <| w_region <| o1 K (os_move rfl) rfl fun _ K => o1 K (os_move rfl) rfl fun _ K => o1 K (os_lenL un_S_bool rfl rfl (hb.len.trans (congrArg some (bC_len _)))) rfl fun _ K => o1 K (os_lss rfl rfl) rfl fun _ K => ?_
    refine oB K (os_move rfl) rfl fun b36 _ e36 K => ?_
    cases b36
    ·replace e36 := of_decide_eq_false e36
     refine gn K rfl rfl rfl rfl fun _ K => gn K rfl rfl rfl rfl fun _ K => gn K rfl rfl rfl rfl fun _ K => gn K rfl rfl rfl rfl fun _ K => o1 K (os_pick rfl rfl rfl) rfl fun _ K => wr_nil ?_
     show W _ _ _ _ _ _ _
     refine w_cond (t := false) (K.opd rfl) (fun h => by cases h) (fun _ => ?_)
     refine w_skip ?_
     show W _ _ _ _ _ _ _
     refine w_seq ?_
     have hy64 := hwb y30 (List.mem_of_getElem? hi30); have hym : y30 % 2 ^ k ≤ y30 := Nat.mod_le _ _
     refine w_region <| o1 K (os_move rfl) rfl fun _ K => o1 K (os_move rfl) rfl fun _ K => o1 K (os_convW (c := ((k : Nat) : Int)) un_uint un_int rfl (IntWalk.u64_in _ (by omega))) rfl fun _ K => o1 K (os_shl1 (n := k) rfl rfl (by omega)) rfl fun _ K => o1 K (os_sub rfl rfl (by omega) (by omega)) rfl fun _ K => o1 K (os_lowN (k := k) (c := y30) rfl rfl (by omega) (by omega)) rfl fun _ K => o1 K (os_assign rfl) rfl fun _ K => wr_nil ?_
     show W _ _ _ _ _ _ _
     refine w_region <| o1 K (os_move rfl) rfl fun _ K => o1 K (os_move rfl) rfl fun _ K => o1 K (os_move rfl) rfl fun _ K => o1 K (os_move rfl) rfl fun _ K => o1 K (os_convW (c := ((k : Nat) : Int)) un_uint un_int rfl (IntWalk.u64_in _ (by omega))) rfl fun _ K => o1 K (os_shlN (a := 0) (n := k) rfl rfl (by omega) (by omega)) rfl fun _ K => o1 K (os_orE (put_orU (k := k) (c := y30) (u := 0) (by decide)) rfl rfl (by omega) (by omega)) rfl fun _ K => o1 K (os_move rfl) rfl fun _ K => ?_
     refine o1 K (os_move rfl) rfl fun _ K => o1 K (os_sub rfl rfl (by omega) (by omega)) rfl fun _ K => o1 K (os_hiN (k := k) (c := y30) rfl rfl (by omega)) rfl fun _ K => o1 K (os_orE (put_orS (k := k) (c := y30) (u := 0) (by decide)) rfl rfl (by omega) (put_hi (by omega))) rfl fun _ K => ?_
     refine wr_bs K M sl_S_int ze_int rfl rfl rfl rfl rfl fun c60 _ _ K M => ?_
     refine wr_acc1 (k2 := 0) (L := [(c60, 0, [.int .i64 ((((putL k y30 0) : Nat) : Int))])]) (A := A) (B := []) K M hA sl_S_int rfl rfl rfl rfl (by rw [zC_len, zN_len, putU_len]; omega) rfl fun ks61 A61 _ _ K hA61 M => ?_
     refine o1 K (os_assign rfl) rfl fun _ K => wr_nil ?_
     show W _ _ _ _ _ _ _
     refine w_region <| o1 K (os_move rfl) rfl fun _ K => o1 K (os_add rfl rfl (by omega) (by omega)) rfl fun _ K => o1 K (os_assign rfl) rfl fun _ K => wr_nil ?_
     exact ⟨_, (by omega), i + 1, ks61, A61, rfl, (.cons (K _ _ rfl) (.cons (K _ _ rfl) (.cons (K _ _ rfl) (.cons (K _ _ rfl) (.cons (K _ _ rfl) (.cons (K _ _ rfl) .nil)))))), M.less (.cons _ (.refl _)), (by omega), (by rw [putU_succ, zN_snoc, zC_app, show lt0 w i = y30 by exact lt0_at hi30, show bit0 bs i = 0 by first | exact (bit0_off (by omega)) | (rw [bit0_at hi39]; simp_all)]; exact hA61)⟩
    replace e36 := of_decide_eq_true e36
    refine og K rfl rfl (os_move rfl) rfl fun _ K => og K rfl rfl (os_move rfl) rfl fun _ K => ?_
    obtain ⟨y39, hi39⟩ : ∃ x, bs[i]? = some x := ⟨_, List.getElem?_eq_getElem (by omega)⟩
    obtain ⟨x39, m39, f39, q39, _, la39, lo39, lp39⟩ := (RdR.mem M hb (by simp)).load (i := i) (cs := _) (bC_get hi39)
    refine og K rfl rfl (os_indexAddr (j := i) el_S_bool (congrArg some q39) rfl (by rw [bC_len]; omega)) rfl fun _ K => og K rfl rfl (os_load rfl (lo39 _ 0 _ tk_bool rfl)) rfl fun _ K => o1 K (os_pick rfl rfl rfl) rfl fun _ K => wr_nil ?_
    show W _ _ _ _ _ _ _
    refine w_cond (K.opd rfl) (fun h41 => ?_) (fun h41 => ?_)
    ·have hb41 := h41
     refine w_region <| o1 K (os_assign rfl) rfl fun _ K => wr_nil ?_
     show W _ _ _ _ _ _ _
     refine w_seq ?_
     have hy64 := hwb y30 (List.mem_of_getElem? hi30); have hym : y30 % 2 ^ k ≤ y30 := Nat.mod_le _ _
     refine w_region <| o1 K (os_move rfl) rfl fun _ K => o1 K (os_move rfl) rfl fun _ K => o1 K (os_convW (c := ((k : Nat) : Int)) un_uint un_int rfl (IntWalk.u64_in _ (by omega))) rfl fun _ K => o1 K (os_shl1 (n := k) rfl rfl (by omega)) rfl fun _ K => o1 K (os_sub rfl rfl (by omega) (by omega)) rfl fun _ K => o1 K (os_lowN (k := k) (c := y30) rfl rfl (by omega) (by omega)) rfl fun _ K => o1 K (os_assign rfl) rfl fun _ K => wr_nil ?_
     show W _ _ _ _ _ _ _
     refine w_region <| o1 K (os_move rfl) rfl fun _ K => o1 K (os_move rfl) rfl fun _ K => o1 K (os_move rfl) rfl fun _ K => o1 K (os_move rfl) rfl fun _ K => o1 K (os_convW (c := ((k : Nat) : Int)) un_uint un_int rfl (IntWalk.u64_in _ (by omega))) rfl fun _ K => o1 K (os_shlN (a := 1) (n := k) rfl rfl (by omega) (by omega)) rfl fun _ K => o1 K (os_orE (put_orU (k := k) (c := y30) (u := 1) (by decide)) rfl rfl (by omega) (by omega)) rfl fun _ K => o1 K (os_move rfl) rfl fun _ K => ?_
     refine o1 K (os_move rfl) rfl fun _ K => o1 K (os_sub rfl rfl (by omega) (by omega)) rfl fun _ K => o1 K (os_hiN (k := k) (c := y30) rfl rfl (by omega)) rfl fun _ K => o1 K (os_orE (put_orS (k := k) (c := y30) (u := 1) (by decide)) rfl rfl (by omega) (put_hi (by omega))) rfl fun _ K => ?_
     refine wr_bs K M sl_S_int ze_int rfl rfl rfl rfl rfl fun c60 _ _ K M => ?_
     refine wr_acc1 (k2 := 0) (L := [(c60, 0, [.int .i64 ((((putL k y30 1) : Nat) : Int))])]) (A := A) (B := []) K M hA sl_S_int rfl rfl rfl rfl (by rw [zC_len, zN_len, putU_len]; omega) rfl fun ks61 A61 _ _ K hA61 M => ?_
     refine o1 K (os_assign rfl) rfl fun _ K => wr_nil ?_
     show W _ _ _ _ _ _ _
     refine w_region <| o1 K (os_move rfl) rfl fun _ K => o1 K (os_add rfl rfl (by omega) (by omega)) rfl fun _ K => o1 K (os_assign rfl) rfl fun _ K => wr_nil ?_
     exact ⟨_, (by omega), i + 1, ks61, A61, rfl, (.cons (K _ _ rfl) (.cons (K _ _ rfl) (.cons (K _ _ rfl) (.cons (K _ _ rfl) (.cons (K _ _ rfl) (.cons (K _ _ rfl) .nil)))))), M.less (.cons _ (.refl _)), (by omega), (by rw [putU_succ, zN_snoc, zC_app, show lt0 w i = y30 by exact lt0_at hi30, show bit0 bs i = 1 by first | exact (bit0_off (by omega)) | (rw [bit0_at hi39]; simp_all)]; exact hA61)⟩
    have hb41 := h41
    refine w_skip ?_
    show W _ _ _ _ _ _ _
    refine w_seq ?_
    have hy64 := hwb y30 (List.mem_of_getElem? hi30); have hym : y30 % 2 ^ k ≤ y30 := Nat.mod_le _ _
    refine w_region <| o1 K (os_move rfl) rfl fun _ K => o1 K (os_move rfl) rfl fun _ K => o1 K (os_convW (c := ((k : Nat) : Int)) un_uint un_int rfl (IntWalk.u64_in _ (by omega))) rfl fun _ K => o1 K (os_shl1 (n := k) rfl rfl (by omega)) rfl fun _ K => o1 K (os_sub rfl rfl (by omega) (by omega)) rfl fun _ K => o1 K (os_lowN (k := k) (c := y30) rfl rfl (by omega) (by omega)) rfl fun _ K => o1 K (os_assign rfl) rfl fun _ K => wr_nil ?_
    show W _ _ _ _ _ _ _
    refine w_region <| o1 K (os_move rfl) rfl fun _ K => o1 K (os_move rfl) rfl fun _ K => o1 K (os_move rfl) rfl fun _ K => o1 K (os_move rfl) rfl fun _ K => o1 K (os_convW (c := ((k : Nat) : Int)) un_uint un_int rfl (IntWalk.u64_in _ (by omega))) rfl fun _ K => o1 K (os_shlN (a := 0) (n := k) rfl rfl (by omega) (by omega)) rfl fun _ K => o1 K (os_orE (put_orU (k := k) (c := y30) (u := 0) (by decide)) rfl rfl (by omega) (by omega)) rfl fun _ K => o1 K (os_move rfl) rfl fun _ K => ?_
    refine o1 K (os_move rfl) rfl fun _ K => o1 K (os_sub rfl rfl (by omega) (by omega)) rfl fun _ K => o1 K (os_hiN (k := k) (c := y30) rfl rfl (by omega)) rfl fun _ K => o1 K (os_orE (put_orS (k := k) (c := y30) (u := 0) (by decide)) rfl rfl (by omega) (put_hi (by omega))) rfl fun _ K => ?_
    refine wr_bs K M sl_S_int ze_int rfl rfl rfl rfl rfl fun c60 _ _ K M => ?_
    refine wr_acc1 (k2 := 0) (L := [(c60, 0, [.int .i64 ((((putL k y30 0) : Nat) : Int))])]) (A := A) (B := []) K M hA sl_S_int rfl rfl rfl rfl (by rw [zC_len, zN_len, putU_len]; omega) rfl fun ks61 A61 _ _ K hA61 M => ?_
    refine o1 K (os_assign rfl) rfl fun _ K => wr_nil ?_
    show W _ _ _ _ _ _ _
    refine w_region <| o1 K (os_move rfl) rfl fun _ K => o1 K (os_add rfl rfl (by omega) (by omega)) rfl fun _ K => o1 K (os_assign rfl) rfl fun _ K => wr_nil ?_
    exact ⟨_, (by omega), i + 1, ks61, A61, rfl, (.cons (K _ _ rfl) (.cons (K _ _ rfl) (.cons (K _ _ rfl) (.cons (K _ _ rfl) (.cons (K _ _ rfl) (.cons (K _ _ rfl) .nil)))))), M.less (.cons _ (.refl _)), (by omega), (by rw [putU_succ, zN_snoc, zC_app, show lt0 w i = y30 by exact lt0_at hi30, show bit0 bs i = 0 by first | exact (bit0_off (by omega)) | (rw [bit0_at hi39]; simp_all)]; exact hA61)⟩
   have hb27 := h27
   replace h27 := of_decide_eq_false h27
   refine w_skip ?_
   show W _ _ _ _ _ _ _
   refine w_seq <| w_seq <| w_region <| o1 K (os_move rfl) rfl fun _ K => o1 K (os_move rfl) rfl fun _ K => o1 K (os_lenL un_S_bool rfl rfl (hb.len.trans (congrArg some (bC_len _)))) rfl fun _ K => o1 K (os_lss rfl rfl) rfl fun _ K => ?_
   refine oB K (os_move rfl) rfl fun b36 _ e36 K => ?_
   cases b36
   ·replace e36 := of_decide_eq_false e36
    refine gn K rfl rfl rfl rfl fun _ K => gn K rfl rfl rfl rfl fun _ K => gn K rfl rfl rfl rfl fun _ K => gn K rfl rfl rfl rfl fun _ K => o1 K (os_pick rfl rfl rfl) rfl fun _ K => wr_nil ?_
    show W _ _ _ _ _ _ _
    refine w_cond (t := false) (K.opd rfl) (fun h => by cases h) (fun _ => ?_)
    refine w_skip ?_
    show W _ _ _ _ _ _ _
    refine w_seq <| w_region <| o1 K (os_move rfl) rfl fun _ K => o1 K (os_move rfl) rfl fun _ K => o1 K (os_convW (c := ((k : Nat) : Int)) un_uint un_int rfl (IntWalk.u64_in _ (by omega))) rfl fun _ K => o1 K (os_shl1 (n := k) rfl rfl (by omega)) rfl fun _ K => o1 K (os_sub rfl rfl (by omega) (by omega)) rfl fun _ K => o1 K (os_lowN (k := k) (c := 0) rfl rfl (by omega) (by omega)) rfl fun _ K => o1 K (os_assign rfl) rfl fun _ K => ?_
    refine wr_nil ?_
    show W _ _ _ _ _ _ _
    refine w_region <| o1 K (os_move rfl) rfl fun _ K => o1 K (os_move rfl) rfl fun _ K => o1 K (os_move rfl) rfl fun _ K => o1 K (os_move rfl) rfl fun _ K => o1 K (os_convW (c := ((k : Nat) : Int)) un_uint un_int rfl (IntWalk.u64_in _ (by omega))) rfl fun _ K => o1 K (os_shlN (a := 0) (n := k) rfl rfl (by omega) (by omega)) rfl fun _ K => o1 K (os_orE (put_orU (k := k) (c := 0) (u := 0) (by decide)) rfl rfl (by omega) (by omega)) rfl fun _ K => o1 K (os_move rfl) rfl fun _ K => ?_
    refine o1 K (os_move rfl) rfl fun _ K => o1 K (os_sub rfl rfl (by omega) (by omega)) rfl fun _ K => o1 K (os_hiN (k := k) (c := 0) rfl rfl (by omega)) rfl fun _ K => o1 K (os_orE (put_orS (k := k) (c := 0) (u := 0) (by decide)) rfl rfl (by omega) (put_hi (by omega))) rfl fun _ K => ?_
    refine wr_bs K M sl_S_int ze_int rfl rfl rfl rfl rfl fun c60 _ _ K M => ?_
    refine wr_acc1 (k2 := 0) (L := [(c60, 0, [.int .i64 ((((putL k 0 0) : Nat) : Int))])]) (A := A) (B := []) K M hA sl_S_int rfl rfl rfl rfl (by rw [zC_len, zN_len, putU_len]; omega) rfl fun ks61 A61 _ _ K hA61 M => ?_
    refine o1 K (os_assign rfl) rfl fun _ K => wr_nil ?_
    show W _ _ _ _ _ _ _
    refine w_region <| o1 K (os_move rfl) rfl fun _ K => o1 K (os_add rfl rfl (by omega) (by omega)) rfl fun _ K => o1 K (os_assign rfl) rfl fun _ K => wr_nil ?_
    exact ⟨_, (by omega), i + 1, ks61, A61, rfl, (.cons (K _ _ rfl) (.cons (K _ _ rfl) (.cons (K _ _ rfl) (.cons (K _ _ rfl) (.cons (K _ _ rfl) (.cons (K _ _ rfl) .nil)))))), M.less (.cons _ (.refl _)), (by omega), (by rw [putU_succ, zN_snoc, zC_app, show lt0 w i = 0 by exact lt0_off (by omega), show bit0 bs i = 0 by first | exact (bit0_off (by omega)) | (rw [bit0_at hi39]; simp_all)]; exact hA61)⟩
   replace e36 := of_decide_eq_true e36
   refine og K rfl rfl (os_move rfl) rfl fun _ K => og K rfl rfl (os_move rfl) rfl fun _ K => ?_
   obtain ⟨y39, hi39⟩ : ∃ x, bs[i]? = some x := ⟨_, List.getElem?_eq_getElem (by omega)⟩
   obtain ⟨x39, m39, f39, q39, _, la39, lo39, lp39⟩ := (RdR.mem M hb (by simp)).load (i := i) (cs := _) (bC_get hi39)
   refine og K rfl rfl (os_indexAddr (j := i) el_S_bool (congrArg some q39) rfl (by rw [bC_len]; omega)) rfl fun _ K => og K rfl rfl (os_load rfl (lo39 _ 0 _ tk_bool rfl)) rfl fun _ K => o1 K (os_pick rfl rfl rfl) rfl fun _ K => wr_nil ?_
   show W _ _ _ _ _ _ _
   refine w_cond (K.opd rfl) (fun h41 => ?_) (fun h41 => ?_)
   ·have hb41 := h41
    refine w_region <| o1 K (os_assign rfl) rfl fun _ K => wr_nil ?_
    show W _ _ _ _ _ _ _
    refine w_seq <| w_region <| o1 K (os_move rfl) rfl fun _ K => o1 K (os_move rfl) rfl fun _ K => o1 K (os_convW (c := ((k : Nat) : Int)) un_uint un_int rfl (IntWalk.u64_in _ (by omega))) rfl fun _ K => o1 K (os_shl1 (n := k) rfl rfl (by omega)) rfl fun _ K => o1 K (os_sub rfl rfl (by omega) (by omega)) rfl fun _ K => o1 K (os_lowN (k := k) (c := 0) rfl rfl (by omega) (by omega)) rfl fun _ K => o1 K (os_assign rfl) rfl fun _ K => ?_
    refine wr_nil ?_
    show W _ _ _ _ _ _ _
    refine w_region <| o1 K (os_move rfl) rfl fun _ K => o1 K (os_move rfl) rfl fun _ K => o1 K (os_move rfl) rfl fun _ K => o1 K (os_move rfl) rfl fun _ K => o1 K (os_convW (c := ((k : Nat) : Int)) un_uint un_int rfl (IntWalk.u64_in _ (by omega))) rfl fun _ K => o1 K (os_shlN (a := 1) (n := k) rfl rfl (by omega) (by omega)) rfl fun _ K => o1 K (os_orE (put_orU (k := k) (c := 0) (u := 1) (by decide)) rfl rfl (by omega) (by omega)) rfl fun _ K => o1 K (os_move rfl) rfl fun _ K => ?_
    refine o1 K (os_move rfl) rfl fun _ K => o1 K (os_sub rfl rfl (by omega) (by omega)) rfl fun _ K => o1 K (os_hiN (k := k) (c := 0) rfl rfl (by omega)) rfl fun _ K => o1 K (os_orE (put_orS (k := k) (c := 0) (u := 1) (by decide)) rfl rfl (by omega) (put_hi (by omega))) rfl fun _ K => ?_
    refine wr_bs K M sl_S_int ze_int rfl rfl rfl rfl rfl fun c60 _ _ K M => ?_
    refine wr_acc1 (k2 := 0) (L := [(c60, 0, [.int .i64 ((((putL k 0 1) : Nat) : Int))])]) (A := A) (B := []) K M hA sl_S_int rfl rfl rfl rfl (by rw [zC_len, zN_len, putU_len]; omega) rfl fun ks61 A61 _ _ K hA61 M => ?_
    refine o1 K (os_assign rfl) rfl fun _ K => wr_nil ?_
    show W _ _ _ _ _ _ _
    refine w_region <| o1 K (os_move rfl) rfl fun _ K => o1 K (os_add rfl rfl (by omega) (by omega)) rfl fun _ K => o1 K (os_assign rfl) rfl fun _ K => wr_nil ?_
    exact ⟨_, (by omega), i + 1, ks61, A61, rfl, (.cons (K _ _ rfl) (.cons (K _ _ rfl) (.cons (K _ _ rfl) (.cons (K _ _ rfl) (.cons (K _ _ rfl) (.cons (K _ _ rfl) .nil)))))), M.less (.cons _ (.refl _)), (by omega), (by rw [putU_succ, zN_snoc, zC_app, show lt0 w i = 0 by exact lt0_off (by omega), show bit0 bs i = 1 by first | exact (bit0_off (by omega)) | (rw [bit0_at hi39]; simp_all)]; exact hA61)⟩
   have hb41 := h41
   refine w_skip ?_
   show W _ _ _ _ _ _ _
   refine w_seq <| w_region <| o1 K (os_move rfl) rfl fun _ K => o1 K (os_move rfl) rfl fun _ K => o1 K (os_convW (c := ((k : Nat) : Int)) un_uint un_int rfl (IntWalk.u64_in _ (by omega))) rfl fun _ K => o1 K (os_shl1 (n := k) rfl rfl (by omega)) rfl fun _ K => o1 K (os_sub rfl rfl (by omega) (by omega)) rfl fun _ K => o1 K (os_lowN (k := k) (c := 0) rfl rfl (by omega) (by omega)) rfl fun _ K => o1 K (os_assign rfl) rfl fun _ K => ?_
   refine wr_nil ?_
   show W _ _ _ _ _ _ _
   refine w_region <| o1 K (os_move rfl) rfl fun _ K => o1 K (os_move rfl) rfl fun _ K => o1 K (os_move rfl) rfl fun _ K => o1 K (os_move rfl) rfl fun _ K => o1 K (os_convW (c := ((k : Nat) : Int)) un_uint un_int rfl (IntWalk.u64_in _ (by omega))) rfl fun _ K => o1 K (os_shlN (a := 0) (n := k) rfl rfl (by omega) (by omega)) rfl fun _ K => o1 K (os_orE (put_orU (k := k) (c := 0) (u := 0) (by decide)) rfl rfl (by omega) (by omega)) rfl fun _ K => o1 K (os_move rfl) rfl fun _ K => ?_
   refine o1 K (os_move rfl) rfl fun _ K => o1 K (os_sub rfl rfl (by omega) (by omega)) rfl fun _ K => o1 K (os_hiN (k := k) (c := 0) rfl rfl (by omega)) rfl fun _ K => o1 K (os_orE (put_orS (k := k) (c := 0) (u := 0) (by decide)) rfl rfl (by omega) (put_hi (by omega))) rfl fun _ K => ?_
   refine wr_bs K M sl_S_int ze_int rfl rfl rfl rfl rfl fun c60 _ _ K M => ?_
   refine wr_acc1 (k2 := 0) (L := [(c60, 0, [.int .i64 ((((putL k 0 0) : Nat) : Int))])]) (A := A) (B := []) K M hA sl_S_int rfl rfl rfl rfl (by rw [zC_len, zN_len, putU_len]; omega) rfl fun ks61 A61 _ _ K hA61 M => ?_
   refine o1 K (os_assign rfl) rfl fun _ K => wr_nil ?_
   show W _ _ _ _ _ _ _
   refine w_region <| o1 K (os_move rfl) rfl fun _ K => o1 K (os_add rfl rfl (by omega) (by omega)) rfl fun _ K => o1 K (os_assign rfl) rfl fun _ K => wr_nil ?_
   exact ⟨_, (by omega), i + 1, ks61, A61, rfl, (.cons (K _ _ rfl) (.cons (K _ _ rfl) (.cons (K _ _ rfl) (.cons (K _ _ rfl) (.cons (K _ _ rfl) (.cons (K _ _ rfl) .nil)))))), M.less (.cons _ (.refl _)), (by omega), (by rw [putU_succ, zN_snoc, zC_app, show lt0 w i = 0 by exact lt0_off (by omega), show bit0 bs i = 0 by first | exact (bit0_off (by omega)) | (rw [bit0_at hi39]; simp_all)]; exact hA61)⟩
  have hb21 := h21
  replace h21 := of_decide_eq_false h21
  refine w_exit ?_
  show W _ _ _ _ _ _ _
  refine w_seq <| w_region <| o1 K (os_move rfl) rfl fun _ K => o1 K (os_assign rfl) rfl fun _ K => wr_nil ?_
  show W _ _ _ _ _ _ _
  refine w_ret ?_
  refine ⟨.inr rfl, _, (res_one (rs_tmp K rfl)), ?_⟩
  refine ⟨_, rfl, ?_, M.qt⟩
  have hie : i = max w.length bs.length := by omega
  subst hie
  rw [show putW k w bs = putU k w bs (max w.length bs.length) from rfl]
  have h := Mem.newR (L := []) (A := A) (B := []) M hA
  simpa using h
 replace e16 := of_decide_eq_true e16
 refine gn K rfl rfl rfl rfl fun _ K => gn K rfl rfl rfl rfl fun _ K => gn K rfl rfl rfl rfl fun _ K => gn K rfl rfl rfl rfl fun _ K => o1 K (os_pick rfl rfl rfl) rfl fun _ K => wr_nil ?_
 show W _ _ _ _ _ _ _
 refine w_cond (t := true) (K.opd rfl) (fun _ => ?_) (fun h => by cases h)
 refine w_skip ?_
 show W _ _ _ _ _ _ _
 refine w_seq <| w_block <| w_seq <| w_region <| o1 K (os_assign rfl) rfl fun _ K => o1 K (os_assign rfl) rfl fun _ K => wr_nil ?_
 show W _ _ _ _ _ _ _
 refine w_seq <| w_seq <| w_region <| o1 K (os_move rfl) rfl fun _ K => o1 K (os_move rfl) rfl fun _ K => o1 K (os_lenL un_S_int rfl rfl (hw.len.trans (congrArg some (by rw [zC_len, List.length_map])))) rfl fun _ K => o1 K (os_lss rfl rfl) rfl fun _ K => wr_nil ?_
 show W _ _ _ _ _ _ _
 refine w_cond (K.opd rfl) (fun h27 => ?_) (fun h27 => ?_)
 ·have hb27 := h27
  replace h27 := of_decide_eq_true h27
  refine w_region <| o1 K (os_move rfl) rfl fun _ K => o1 K (os_move rfl) rfl fun _ K => ?_
  obtain ⟨y30, hi30⟩ : ∃ x, w[i]? = some x := ⟨_, List.getElem?_eq_getElem (by omega)⟩
  obtain ⟨x30, m30, f30, q30, _, la30, lo30, lp30⟩ := (RdR.mem M hw (by simp)).load (i := i) (cs := _) (zN_get hi30)
  refine o1 K (os_indexAddr (j := i) el_S_int (congrArg some q30) rfl (by rw [zC_len, List.length_map]; omega)) rfl fun _ K => o1 K (os_load rfl (lo30 _ 0 _ tk_int rfl)) rfl fun _ K => o1 K (os_assign rfl) rfl fun _ K => wr_nil ?_
  show W _ _ _ _ _ _ _
  refine w_seq <| w_seq <| w_region <| o1 K (os_move rfl) rfl fun _ K => o1 K (os_move rfl) rfl fun _ K => o1 K (os_lenL un_S_bool rfl rfl (hb.len.trans (congrArg some (bC_len _)))) rfl fun _ K => o1 K (os_lss rfl rfl) rfl fun _ K => ?_
  refine oB K (os_move rfl) rfl fun b36 _ e36 K => ?_
  cases b36
  ·replace e36 := of_decide_eq_false e36
   refine gn K rfl rfl rfl rfl fun _ K => gn K rfl rfl rfl rfl fun _ K => gn K rfl rfl rfl rfl fun _ K => gn K rfl rfl rfl rfl fun _ K => o1 K (os_pick rfl rfl rfl) rfl fun _ K => wr_nil ?_
   show W _ _ _ _ _ _ _
   refine w_cond (t := false) (K.opd rfl) (fun h => by cases h) (fun _ => ?_)
   refine w_skip ?_
   show W _ _ _ _ _ _ _
   refine w_seq ?_
   have hy64 := hwb y30 (List.mem_of_getElem? hi30); have hym : y30 % 2 ^ k ≤ y30 := Nat.mod_le _ _
   refine w_region <| o1 K (os_move rfl) rfl fun _ K => o1 K (os_move rfl) rfl fun _ K => o1 K (os_convW (c := ((k : Nat) : Int)) un_uint un_int rfl (IntWalk.u64_in _ (by omega))) rfl fun _ K => o1 K (os_shl1 (n := k) rfl rfl (by omega)) rfl fun _ K => o1 K (os_sub rfl rfl (by omega) (by omega)) rfl fun _ K => o1 K (os_lowN (k := k) (c := y30) rfl rfl (by omega) (by omega)) rfl fun _ K => o1 K (os_assign rfl) rfl fun _ K => wr_nil ?_
   show W _ _ _ _ _ _ _
   refine w_region <| o1 K (os_move rfl) rfl fun _ K => o1 K (os_move rfl) rfl fun _ K => o1 K (os_move rfl) rfl fun _ K => o1 K (os_move rfl) rfl fun _ K => o1 K (os_convW (c := ((k : Nat) : Int)) un_uint un_int rfl (IntWalk.u64_in _ (by omega))) rfl fun _ K => o1 K (os_shlN (a := 0) (n := k) rfl rfl (by omega) (by omega)) rfl fun _ K => o1 K (os_orE (put_orU (k := k) (c := y30) (u := 0) (by decide)) rfl rfl (by omega) (by omega)) rfl fun _ K => o1 K (os_move rfl) rfl fun _ K => ?_
   refine o1 K (os_move rfl) rfl fun _ K => o1 K (os_sub rfl rfl (by omega) (by omega)) rfl fun _ K => o1 K (os_hiN (k := k) (c := y30) rfl rfl (by omega)) rfl fun _ K => o1 K (os_orE (put_orS (k := k) (c := y30) (u := 0) (by decide)) rfl rfl (by omega) (put_hi (by omega))) rfl fun _ K => ?_
   refine wr_bs K M sl_S_int ze_int rfl rfl rfl rfl rfl fun c60 _ _ K M => ?_
   refine wr_acc1 (k2 := 0) (L := [(c60, 0, [.int .i64 ((((putL k y30 0) : Nat) : Int))])]) (A := A) (B := []) K M hA sl_S_int rfl rfl rfl rfl (by rw [zC_len, zN_len, putU_len]; omega) rfl fun ks61 A61 _ _ K hA61 M => ?_
   refine o1 K (os_assign rfl) rfl fun _ K => wr_nil ?_
   show W _ _ _ _ _ _ _
   refine w_region <| o1 K (os_move rfl) rfl fun _ K => o1 K (os_add rfl rfl (by omega) (by omega)) rfl fun _ K => o1 K (os_assign rfl) rfl fun _ K => wr_nil ?_
   exact ⟨_, (by omega), i + 1, ks61, A61, rfl, (.cons (K _ _ rfl) (.cons (K _ _ rfl) (.cons (K _ _ rfl) (.cons (K _ _ rfl) (.cons (K _ _ rfl) (.cons (K _ _ rfl) .nil)))))), M.less (.cons _ (.refl _)), (by omega), (by rw [putU_succ, zN_snoc, zC_app, show lt0 w i = y30 by exact lt0_at hi30, show bit0 bs i = 0 by first | exact (bit0_off (by omega)) | (rw [bit0_at hi39]; simp_all)]; exact hA61)⟩
  replace e36 := of_decide_eq_true e36
  refine og K rfl rfl (os_move rfl) rfl fun _ K => og K rfl rfl (os_move rfl) rfl fun _ K => ?_
  obtain ⟨y39, hi39⟩ : ∃ x, bs[i]? = some x := ⟨_, List.getElem?_eq_getElem (by omega)⟩
  obtain ⟨x39, m39, f39, q39, _, la39, lo39, lp39⟩ := (RdR.mem M hb (by simp)).load (i := i) (cs := _) (bC_get hi39)
  refine og K rfl rfl (os_indexAddr (j := i) el_S_bool (congrArg some q39) rfl (by rw [bC_len]; omega)) rfl fun _ K => og K rfl rfl (os_load rfl (lo39 _ 0 _ tk_bool rfl)) rfl fun _ K => o1 K (os_pick rfl rfl rfl) rfl fun _ K => wr_nil ?_
  show W _ _ _ _ _ _ _
  refine w_cond (K.opd rfl) (fun h41 => ?_) (fun h41 => ?_)
  ·have hb41 := h41
   refine w_region <| o1 K (os_assign rfl) rfl fun _ K => wr_nil ?_
   show W _ _ _ _ _ _ _
   refine w_seq ?_
   have hy64 := hwb y30 (List.mem_of_getElem? hi30); have hym : y30 % 2 ^ k ≤ y30 := Nat.mod_le _ _
   refine w_region <| o1 K (os_move rfl) rfl fun _ K => o1 K (os_move rfl) rfl fun _ K => o1 K (os_convW (c := ((k : Nat) : Int)) un_uint un_int rfl (IntWalk.u64_in _ (by omega))) rfl fun _ K => o1 K (os_shl1 (n := k) rfl rfl (by omega)) rfl fun _ K => o1 K (os_sub rfl rfl (by omega) (by omega)) rfl fun _ K => o1 K (os_lowN (k := k) (c := y30) rfl rfl (by omega) (by omega)) rfl fun _ K => o1 K (os_assign rfl) rfl fun _ K => wr_nil ?_
   show W _ _ _ _ _ _ _
   refine w_region <| o1 K (os_move rfl) rfl fun _ K => o1 K (os_move rfl) rfl fun _ K => o1 K (os_move rfl) rfl fun _ K => o1 K (os_move rfl) rfl fun _ K => o1 K (os_convW (c := ((k : Nat) : Int)) un_uint un_int rfl (IntWalk.u64_in _ (by omega))) rfl fun _ K => o1 K (os_shlN (a := 1) (n := k) rfl rfl (by omega) (by omega)) rfl fun _ K => o1 K (os_orE (put_orU (k := k) (c := y30) (u := 1) (by decide)) rfl rfl (by omega) (by omega)) rfl fun _ K => o1 K (os_move rfl) rfl fun _ K => ?_
   refine o1 K (os_move rfl) rfl fun _ K => o1 K (os_sub rfl rfl (by omega) (by omega)) rfl fun _ K => o1 K (os_hiN (k := k) (c := y30) rfl rfl (by omega)) rfl fun _ K => o1 K (os_orE (put_orS (k := k) (c := y30) (u := 1) (by decide)) rfl rfl (by omega) (put_hi (by omega))) rfl fun _ K => ?_
   refine wr_bs K M sl_S_int ze_int rfl rfl rfl rfl rfl fun c60 _ _ K M => ?_
   refine wr_acc1 (k2 := 0) (L := [(c60, 0, [.int .i64 ((((putL k y30 1) : Nat) : Int))])]) (A := A) (B := []) K M hA sl_S_int rfl rfl rfl rfl (by rw [zC_len, zN_len, putU_len]; omega) rfl fun ks61 A61 _ _ K hA61 M => ?_
   refine o1 K (os_assign rfl) rfl fun _ K => wr_nil ?_
   show W _ _ _ _ _ _ _
   refine w_region <| o1 K (os_move rfl) rfl fun _ K => o1 K (os_add rfl rfl (by omega) (by omega)) rfl fun _ K => o1 K (os_assign rfl) rfl fun _ K => wr_nil ?_
   exact ⟨_, (by omega), i + 1, ks61, A61, rfl, (.cons (K _ _ rfl) (.cons (K _ _ rfl) (.cons (K _ _ rfl) (.cons (K _ _ rfl) (.cons (K _ _ rfl) (.cons (K _ _ rfl) .nil)))))), M.less (.cons _ (.refl _)), (by omega), (by rw [putU_succ, zN_snoc, zC_app, show lt0 w i = y30 by exact lt0_at hi30, show bit0 bs i = 1 by first | exact (bit0_off (by omega)) | (rw [bit0_at hi39]; simp_all)]; exact hA61)⟩
  have hb41 := h41
  refine w_skip ?_
  show W _ _ _ _ _ _ _
  refine w_seq ?_
  have hy64 := hwb y30 (List.mem_of_getElem? hi30); have hym : y30 % 2 ^ k ≤ y30 := Nat.mod_le _ _
  refine w_region <| o1 K (os_move rfl) rfl fun _ K => o1 K (os_move rfl) rfl fun _ K => o1 K (os_convW (c := ((k : Nat) : Int)) un_uint un_int rfl (IntWalk.u64_in _ (by omega))) rfl fun _ K => o1 K (os_shl1 (n := k) rfl rfl (by omega)) rfl fun _ K => o1 K (os_sub rfl rfl (by omega) (by omega)) rfl fun _ K => o1 K (os_lowN (k := k) (c := y30) rfl rfl (by omega) (by omega)) rfl fun _ K => o1 K (os_assign rfl) rfl fun _ K => wr_nil ?_
  show W _ _ _ _ _ _ _
  refine w_region <| o1 K (os_move rfl) rfl fun _ K => o1 K (os_move rfl) rfl fun _ K => o1 K (os_move rfl) rfl fun _ K => o1 K (os_move rfl) rfl fun _ K => o1 K (os_convW (c := ((k : Nat) : Int)) un_uint un_int rfl (IntWalk.u64_in _ (by omega))) rfl fun _ K => o1 K (os_shlN (a := 0) (n := k) rfl rfl (by omega) (by omega)) rfl fun _ K => o1 K (os_orE (put_orU (k := k) (c := y30) (u := 0) (by decide)) rfl rfl (by omega) (by omega)) rfl fun _ K => o1 K (os_move rfl) rfl fun _ K => ?_
  refine o1 K (os_move rfl) rfl fun _ K => o1 K (os_sub rfl rfl (by omega) (by omega)) rfl fun _ K => o1 K (os_hiN (k := k) (c := y30) rfl rfl (by omega)) rfl fun _ K => o1 K (os_orE (put_orS (k := k) (c := y30) (u := 0) (by decide)) rfl rfl (by omega) (put_hi (by omega))) rfl fun _ K => ?_
  refine wr_bs K M sl_S_int ze_int rfl rfl rfl rfl rfl fun c60 _ _ K M => ?_
  refine wr_acc1 (k2 := 0) (L := [(c60, 0, [.int .i64 ((((putL k y30 0) : Nat) : Int))])]) (A := A) (B := []) K M hA sl_S_int rfl rfl rfl rfl (by rw [zC_len, zN_len, putU_len]; omega) rfl fun ks61 A61 _ _ K hA61 M => ?_
  refine o1 K (os_assign rfl) rfl fun _ K => wr_nil ?_
  show W _ _ _ _ _ _ _
  refine w_region <| o1 K (os_move rfl) rfl fun _ K => o1 K (os_add rfl rfl (by omega) (by omega)) rfl fun _ K => o1 K (os_assign rfl) rfl fun _ K => wr_nil ?_
  exact ⟨_, (by omega), i + 1, ks61, A61, rfl, (.cons (K _ _ rfl) (.cons (K _ _ rfl) (.cons (K _ _ rfl) (.cons (K _ _ rfl) (.cons (K _ _ rfl) (.cons (K _ _ rfl) .nil)))))), M.less (.cons _ (.refl _)), (by omega), (by rw [putU_succ, zN_snoc, zC_app, show lt0 w i = y30 by exact lt0_at hi30, show bit0 bs i = 0 by first | exact (bit0_off (by omega)) | (rw [bit0_at hi39]; simp_all)]; exact hA61)⟩
 have hb27 := h27
 replace h27 := of_decide_eq_false h27
 refine w_skip ?_
 show W _ _ _ _ _ _ _
 refine w_seq <| w_seq <| w_region <| o1 K (os_move rfl) rfl fun _ K => o1 K (os_move rfl) rfl fun _ K => o1 K (os_lenL un_S_bool rfl rfl (hb.len.trans (congrArg some (bC_len _)))) rfl fun _ K => o1 K (os_lss rfl rfl) rfl fun _ K => ?_
 refine oB K (os_move rfl) rfl fun b36 _ e36 K => ?_
 cases b36
 ·replace e36 := of_decide_eq_false e36
  refine gn K rfl rfl rfl rfl fun _ K => gn K rfl rfl rfl rfl fun _ K => gn K rfl rfl rfl rfl fun _ K => gn K rfl rfl rfl rfl fun _ K => o1 K (os_pick rfl rfl rfl) rfl fun _ K => wr_nil ?_
  show W _ _ _ _ _ _ _
  refine w_cond (t := false) (K.opd rfl) (fun h => by cases h) (fun _ => ?_)
  refine w_skip ?_
  show W _ _ _ _ _ _ _
  refine w_seq <| w_region <| o1 K (os_move rfl) rfl fun _ K => o1 K (os_move rfl) rfl fun _ K => o1 K (os_convW (c := ((k : Nat) : Int)) un_uint un_int rfl (IntWalk.u64_in _ (by omega))) rfl fun _ K => o1 K (os_shl1 (n := k) rfl rfl (by omega)) rfl fun _ K => o1 K (os_sub rfl rfl (by omega) (by omega)) rfl fun _ K => o1 K (os_lowN (k := k) (c := 0) rfl rfl (by omega) (by omega)) rfl fun _ K => o1 K (os_assign rfl) rfl fun _ K => ?_
  refine wr_nil ?_
  show W _ _ _ _ _ _ _
  refine w_region <| o1 K (os_move rfl) rfl fun _ K => o1 K (os_move rfl) rfl fun _ K => o1 K (os_move rfl) rfl fun _ K => o1 K (os_move rfl) rfl fun _ K => o1 K (os_convW (c := ((k : Nat) : Int)) un_uint un_int rfl (IntWalk.u64_in _ (by omega))) rfl fun _ K => o1 K (os_shlN (a := 0) (n := k) rfl rfl (by omega) (by omega)) rfl fun _ K => o1 K (os_orE (put_orU (k := k) (c := 0) (u := 0) (by decide)) rfl rfl (by omega) (by omega)) rfl fun _ K => o1 K (os_move rfl) rfl fun _ K => ?_
  refine o1 K (os_move rfl) rfl fun _ K => o1 K (os_sub rfl rfl (by omega) (by omega)) rfl fun _ K => o1 K (os_hiN (k := k) (c := 0) rfl rfl (by omega)) rfl fun _ K => o1 K (os_orE (put_orS (k := k) (c := 0) (u := 0) (by decide)) rfl rfl (by omega) (put_hi (by omega))) rfl fun _ K => ?_
  refine wr_bs K M sl_S_int ze_int rfl rfl rfl rfl rfl fun c60 _ _ K M => ?_
  refine wr_acc1 (k2 := 0) (L := [(c60, 0, [.int .i64 ((((putL k 0 0) : Nat) : Int))])]) (A := A) (B := []) K M hA sl_S_int rfl rfl rfl rfl (by rw [zC_len, zN_len, putU_len]; omega) rfl fun ks61 A61 _ _ K hA61 M => ?_
  refine o1 K (os_assign rfl) rfl fun _ K => wr_nil ?_
  show W _ _ _ _ _ _ _
  refine w_region <| o1 K (os_move rfl) rfl fun _ K => o1 K (os_add rfl rfl (by omega) (by omega)) rfl fun _ K => o1 K (os_assign rfl) rfl fun _ K => wr_nil ?_
  exact ⟨_, (by omega), i + 1, ks61, A61, rfl, (.cons (K _ _ rfl) (.cons (K _ _ rfl) (.cons (K _ _ rfl) (.cons (K _ _ rfl) (.cons (K _ _ rfl) (.cons (K _ _ rfl) .nil)))))), M.less (.cons _ (.refl _)), (by omega), (by rw [putU_succ, zN_snoc, zC_app, show lt0 w i = 0 by exact lt0_off (by omega), show bit0 bs i = 0 by first | exact (bit0_off (by omega)) | (rw [bit0_at hi39]; simp_all)]; exact hA61)⟩
 replace e36 := of_decide_eq_true e36
 refine og K rfl rfl (os_move rfl) rfl fun _ K => og K rfl rfl (os_move rfl) rfl fun _ K => ?_
 obtain ⟨y39, hi39⟩ : ∃ x, bs[i]? = some x := ⟨_, List.getElem?_eq_getElem (by omega)⟩
 obtain ⟨x39, m39, f39, q39, _, la39, lo39, lp39⟩ := (RdR.mem M hb (by simp)).load (i := i) (cs := _) (bC_get hi39)
 refine og K rfl rfl (os_indexAddr (j := i) el_S_bool (congrArg some q39) rfl (by rw [bC_len]; omega)) rfl fun _ K => og K rfl rfl (os_load rfl (lo39 _ 0 _ tk_bool rfl)) rfl fun _ K => o1 K (os_pick rfl rfl rfl) rfl fun _ K => wr_nil ?_
 show W _ _ _ _ _ _ _
 refine w_cond (K.opd rfl) (fun h41 => ?_) (fun h41 => ?_)
 ·have hb41 := h41
  refine w_region <| o1 K (os_assign rfl) rfl fun _ K => wr_nil ?_
  show W _ _ _ _ _ _ _
  refine w_seq <| w_region <| o1 K (os_move rfl) rfl fun _ K => o1 K (os_move rfl) rfl fun _ K => o1 K (os_convW (c := ((k : Nat) : Int)) un_uint un_int rfl (IntWalk.u64_in _ (by omega))) rfl fun _ K => o1 K (os_shl1 (n := k) rfl rfl (by omega)) rfl fun _ K => o1 K (os_sub rfl rfl (by omega) (by omega)) rfl fun _ K => o1 K (os_lowN (k := k) (c := 0) rfl rfl (by omega) (by omega)) rfl fun _ K => o1 K (os_assign rfl) rfl fun _ K => ?_
  refine wr_nil ?_
  show W _ _ _ _ _ _ _
  refine w_region <| o1 K (os_move rfl) rfl fun _ K => o1 K (os_move rfl) rfl fun _ K => o1 K (os_move rfl) rfl fun _ K => o1 K (os_move rfl) rfl fun _ K => o1 K (os_convW (c := ((k : Nat) : Int)) un_uint un_int rfl (IntWalk.u64_in _ (by omega))) rfl fun _ K => o1 K (os_shlN (a := 1) (n := k) rfl rfl (by omega) (by omega)) rfl fun _ K => o1 K (os_orE (put_orU (k := k) (c := 0) (u := 1) (by decide)) rfl rfl (by omega) (by omega)) rfl fun _ K => o1 K (os_move rfl) rfl fun _ K => ?_
  refine o1 K (os_move rfl) rfl fun _ K => o1 K (os_sub rfl rfl (by omega) (by omega)) rfl fun _ K => o1 K (os_hiN (k := k) (c := 0) rfl rfl (by omega)) rfl fun _ K => o1 K (os_orE (put_orS (k := k) (c := 0) (u := 1) (by decide)) rfl rfl (by omega) (put_hi (by omega))) rfl fun _ K => ?_
  refine wr_bs K M sl_S_int ze_int rfl rfl rfl rfl rfl fun c60 _ _ K M => ?_
  refine wr_acc1 (k2 := 0) (L := [(c60, 0, [.int .i64 ((((putL k 0 1) : Nat) : Int))])]) (A := A) (B := []) K M hA sl_S_int rfl rfl rfl rfl (by rw [zC_len, zN_len, putU_len]; omega) rfl fun ks61 A61 _ _ K hA61 M => ?_
  refine o1 K (os_assign rfl) rfl fun _ K => wr_nil ?_
  show W _ _ _ _ _ _ _
  refine w_region <| o1 K (os_move rfl) rfl fun _ K => o1 K (os_add rfl rfl (by omega) (by omega)) rfl fun _ K => o1 K (os_assign rfl) rfl fun _ K => wr_nil ?_
  exact ⟨_, (by omega), i + 1, ks61, A61, rfl, (.cons (K _ _ rfl) (.cons (K _ _ rfl) (.cons (K _ _ rfl) (.cons (K _ _ rfl) (.cons (K _ _ rfl) (.cons (K _ _ rfl) .nil)))))), M.less (.cons _ (.refl _)), (by omega), (by rw [putU_succ, zN_snoc, zC_app, show lt0 w i = 0 by exact lt0_off (by omega), show bit0 bs i = 1 by first | exact (bit0_off (by omega)) | (rw [bit0_at hi39]; simp_all)]; exact hA61)⟩
 have hb41 := h41
 refine w_skip ?_
 show W _ _ _ _ _ _ _
 refine w_seq <| w_region <| o1 K (os_move rfl) rfl fun _ K => o1 K (os_move rfl) rfl fun _ K => o1 K (os_convW (c := ((k : Nat) : Int)) un_uint un_int rfl (IntWalk.u64_in _ (by omega))) rfl fun _ K => o1 K (os_shl1 (n := k) rfl rfl (by omega)) rfl fun _ K => o1 K (os_sub rfl rfl (by omega) (by omega)) rfl fun _ K => o1 K (os_lowN (k := k) (c := 0) rfl rfl (by omega) (by omega)) rfl fun _ K => o1 K (os_assign rfl) rfl fun _ K => ?_
 refine wr_nil ?_
 show W _ _ _ _ _ _ _
 refine w_region <| o1 K (os_move rfl) rfl fun _ K => o1 K (os_move rfl) rfl fun _ K => o1 K (os_move rfl) rfl fun _ K => o1 K (os_move rfl) rfl fun _ K => o1 K (os_convW (c := ((k : Nat) : Int)) un_uint un_int rfl (IntWalk.u64_in _ (by omega))) rfl fun _ K => o1 K (os_shlN (a := 0) (n := k) rfl rfl (by omega) (by omega)) rfl fun _ K => o1 K (os_orE (put_orU (k := k) (c := 0) (u := 0) (by decide)) rfl rfl (by omega) (by omega)) rfl fun _ K => o1 K (os_move rfl) rfl fun _ K => ?_
 refine o1 K (os_move rfl) rfl fun _ K => o1 K (os_sub rfl rfl (by omega) (by omega)) rfl fun _ K => o1 K (os_hiN (k := k) (c := 0) rfl rfl (by omega)) rfl fun _ K => o1 K (os_orE (put_orS (k := k) (c := 0) (u := 0) (by decide)) rfl rfl (by omega) (put_hi (by omega))) rfl fun _ K => ?_
 refine wr_bs K M sl_S_int ze_int rfl rfl rfl rfl rfl fun c60 _ _ K M => ?_
 refine wr_acc1 (k2 := 0) (L := [(c60, 0, [.int .i64 ((((putL k 0 0) : Nat) : Int))])]) (A := A) (B := []) K M hA sl_S_int rfl rfl rfl rfl (by rw [zC_len, zN_len, putU_len]; omega) rfl fun ks61 A61 _ _ K hA61 M => ?_
 refine o1 K (os_assign rfl) rfl fun _ K => wr_nil ?_
 show W _ _ _ _ _ _ _
 refine w_region <| o1 K (os_move rfl) rfl fun _ K => o1 K (os_add rfl rfl (by omega) (by omega)) rfl fun _ K => o1 K (os_assign rfl) rfl fun _ K => wr_nil ?_
 exact ⟨_, (by omega), i + 1, ks61, A61, rfl, (.cons (K _ _ rfl) (.cons (K _ _ rfl) (.cons (K _ _ rfl) (.cons (K _ _ rfl) (.cons (K _ _ rfl) (.cons (K _ _ rfl) .nil)))))), M.less (.cons _ (.refl _)), (by omega), (by rw [putU_succ, zN_snoc, zC_app, show lt0 w i = 0 by exact lt0_off (by omega), show bit0 bs i = 0 by first | exact (bit0_off (by omega)) | (rw [bit0_at hi39]; simp_all)]; exact hA61)⟩

theorem put1_ev {st : St} (hf : Fresh st) {c : Nat} {kw : AV} (hw : RdR st.h.get [] 1 (zC (zN [c])) kw) (hwb : c ≤ 64) {bs : List Bool} {kb : AV} (hb : RdR st.h.get [] 1 (bC bs) kb) (hbl : bs.length ≤ 1) {k : Nat} (hk : k ≤ 6) : ∃ v st', Ev Tryd.prog envP 19 [kw, kb, .int .i64 ((k : Nat) : Int)] st v st' ∧ NewR st st' 1 v (zC (zN [putL k c (bit0 bs 0)])) ∧ Qt st st' := by
 obtain ⟨v, st', h1, kr, rfl, h2, h3⟩ := put22_ev hf hw (fun x hx => by rw [List.mem_singleton.1 hx]; exact hwb) hb (by simp) (by omega) hk
 refine ⟨v, st', h1, ?_, h3⟩
 have e : putW k [c] bs = [putL k c (bit0 bs 0)] := by
  unfold putW
  rw [show max [c].length bs.length = 1 by simp; omega]
  rfl
 rw [e] at h2
 exact h2

theorem acc22_ev {st : St} (hf : Fresh st) {a : Au} (wf : WFA a) {ka kn : AV} {ls : List (List AV)} (hA : RdR st.h.get [] 1 (bC a.acc) ka) (hN : LsR st.h.get a.nx kn ls) {now : List Bool} {kl : AV} (hl : RdR st.h.get [] 1 (bC now) kl) (hn : now.length = a.n) : ∃ v st', Ev Tryd.prog envP 38 [.agg [.int .i64 (((a.tr : Nat) : Int)), ka, kn], kl] st v st' ∧ ∃ b, v = .bool b ∧ ((∃ s, s < a.n ∧ bvl now s = true ∧ a.ok s = true) → b = true) ∧ Qt st st' := by
 have hac := hA.cell; have hnc := hN.r.cell; have hlc := hl.cell; have hmo := wf.most; have hen : a.n = a.acc.length := rfl
 refine ev_fn rfl Tryd.func38 rfl Tryd.ntmps38 rfl (by decide) (by simp) fun T hT => ?_
 have K : KnT [(0, _), (1, _)] T := (.cons (hT 0) (.cons (hT 1) .nil))
 have M := Mem.start hf
 refine w_seq <| w_region ?_
 refine wr_box K M rfl (cl_cons rfl (cl_cons hA.cell (cl_cons hN.r.cell cl_nil))) (by decide) fun c2 _ _ K M => ?_
 refine o1 K (os_assign rfl) rfl fun _ K => wr_nil ?_
 show W _ _ _ _ _ _ _
 refine w_seq <| w_seq <| w_region <| o1 K (os_assign rfl) rfl fun _ K => wr_nil ?_
 show W _ _ _ _ _ _ _
 refine w_block ?_
 refine w_loop (fun mm1 T st9 => ∃ (i : Nat), mm1 = a.n - i ∧ KnT [(1, kl), (2, .ptr c2 0 0), (5, .int .i64 (((i : Nat) : Int)))] T ∧ Mem st.h.get st.n [] st9 [(c2, 0, [.int .i64 (((a.tr : Nat) : Int)), ka, kn])] ∧ i ≤ a.n ∧ (∀ s, s < i → bvl now s = true → a.ok s = false)) (fun mm1 T st9 hI => ?_) _ _ _ ⟨0, rfl, (.cons (K _ _ rfl) (.cons (K _ _ rfl) (.cons (K _ _ rfl) .nil))), M.less (.refl _), (Nat.zero_le _), (fun s hs => absurd hs (Nat.not_lt_zero s))⟩
 obtain ⟨i, rfl, K, M, hi, hno⟩ := hI
 refine w_seq <| w_seq <| w_region <| o1 K (os_move rfl) rfl fun _ K => o1 K (os_move rfl) rfl fun _ K => o1 K (os_lenL un_S_bool rfl rfl (hl.len.trans (congrArg some (bC_len _)))) rfl fun _ K => o1 K (os_lss rfl rfl) rfl fun _ K => wr_nil ?_
 show W _ _ _ _ _ _ _
 refine w_cond (K.opd rfl) (fun h9 => ?_) (fun h9 => ?_)
 ·have hb9 := h9
  replace h9 := of_decide_eq_true h9
  refine w_skip ?_
  show W _ _ _ _ _ _ _
  refine w_seq <| w_block <| w_seq <| w_region <| o1 K (os_move rfl) rfl fun _ K => o1 K (os_move rfl) rfl fun _ K => ?_
  obtain ⟨y14, hi14⟩ : ∃ x, now[i]? = some x := ⟨_, List.getElem?_eq_getElem (by omega)⟩
  obtain ⟨x14, m14, f14, q14, _, la14, lo14, lp14⟩ := (RdR.mem M hl (by simp)).load (i := i) (cs := _) (bC_get hi14)
  refine o1 K (os_indexAddr (j := i) el_S_bool (congrArg some q14) rfl (by rw [bC_len]; omega)) rfl fun _ K => o1 K (os_load rfl (lo14 _ 0 _ tk_bool rfl)) rfl fun _ K => ?_
  refine oB K (os_move rfl) rfl fun b16 _ e16 K => ?_
  cases b16
  ·refine gn K rfl rfl rfl rfl fun _ K => gn K rfl rfl rfl rfl fun _ K => gn K rfl rfl rfl rfl fun _ K => gn K rfl rfl rfl rfl fun _ K => gn K rfl rfl rfl rfl fun _ K => o1 K (os_pick rfl rfl rfl) rfl fun _ K => wr_nil ?_
   show W _ _ _ _ _ _ _
   refine w_cond (t := false) (K.opd rfl) (fun h => by cases h) (fun _ => ?_)
   refine w_skip ?_
   show W _ _ _ _ _ _ _
   refine w_region <| o1 K (os_move rfl) rfl fun _ K => o1 K (os_add rfl rfl (by omega) (by omega)) rfl fun _ K => o1 K (os_assign rfl) rfl fun _ K => wr_nil ?_
   exact ⟨_, (by omega), i + 1, rfl, (.cons (K _ _ rfl) (.cons (K _ _ rfl) (.cons (K _ _ rfl) .nil))), M.less (.refl _), (by omega), (fun s hs h1 => by rcases Nat.lt_succ_iff_lt_or_eq.1 hs with h | h; exact hno s h h1; subst h; rw [bvl_at hi14] at h1; first | (rw [e16] at h1; exact absurd h1 (by decide)) | (show (a.acc[s]?).getD false = false; rw [hi20]; simp_all))⟩
  refine og K rfl rfl (os_fieldAddr fo_api_Auto_1 rfl) rfl fun _ K => og K rfl rfl (os_load rfl (M.load (k := 0) rfl (part_one tk_S_bool rfl))) rfl fun _ K => og K rfl rfl (os_move rfl) rfl fun _ K => ?_
  obtain ⟨y20, hi20⟩ : ∃ x, a.acc[i]? = some x := ⟨_, List.getElem?_eq_getElem (by omega)⟩
  obtain ⟨x20, m20, f20, q20, _, la20, lo20, lp20⟩ := (RdR.mem M hA (by simp)).load (i := i) (cs := _) (bC_get hi20)
  refine og K rfl rfl (os_indexAddr (j := i) el_S_bool (congrArg some q20) rfl (by rw [bC_len]; omega)) rfl fun _ K => og K rfl rfl (os_load rfl (lo20 _ 0 _ tk_bool rfl)) rfl fun _ K => o1 K (os_pick rfl rfl rfl) rfl fun _ K => wr_nil ?_
  show W _ _ _ _ _ _ _
  refine w_cond (K.opd rfl) (fun h22 => ?_) (fun h22 => ?_)
  ·have hb22 := h22
   refine w_seq <| w_region <| o1 K (os_assign rfl) rfl fun _ K => wr_nil ?_
   show W _ _ _ _ _ _ _
   refine w_ret ?_
   refine ⟨.inr rfl, _, (res_one (rs_tmp K rfl)), ?_⟩
   exact ⟨true, rfl, fun _ => rfl, M.qt⟩
  have hb22 := h22
  refine w_skip ?_
  show W _ _ _ _ _ _ _
  refine w_region <| o1 K (os_move rfl) rfl fun _ K => o1 K (os_add rfl rfl (by omega) (by omega)) rfl fun _ K => o1 K (os_assign rfl) rfl fun _ K => wr_nil ?_
  exact ⟨_, (by omega), i + 1, rfl, (.cons (K _ _ rfl) (.cons (K _ _ rfl) (.cons (K _ _ rfl) .nil))), M.less (.refl _), (by omega), (fun s hs h1 => by rcases Nat.lt_succ_iff_lt_or_eq.1 hs with h | h; exact hno s h h1; subst h; rw [bvl_at hi14] at h1; first | (rw [e16] at h1; exact absurd h1 (by decide)) | (show (a.acc[s]?).getD false = false; rw [hi20]; simp_all))⟩
 have hb9 := h9
 replace h9 := of_decide_eq_false h9
 refine w_exit ?_
 show W _ _ _ _ _ _ _
 refine w_seq <| w_region <| o1 K (os_assign rfl) rfl fun _ K => wr_nil ?_
 show W _ _ _ _ _ _ _
 refine w_ret ?_
 refine ⟨.inr rfl, _, (res_one (rs_tmp K rfl)), ?_⟩
 refine ⟨false, rfl, fun h => ?_, M.qt⟩
 obtain ⟨s, h1, h2, h3⟩ := h
 rw [hno s (by omega) h2] at h3; cases h3

theorem one_rdN {h : Hp} {c m z : Nat} (r : Row1 h c m [.int .i64 ((z : Nat) : Int)]) : RdR h [] 1 (zC (zN [z])) (.sl c m 0 1 1) := RdR.own (ls := zC (zN [z])) r (zC_one _) (by simp) (by simp [zC, zN])
theorem one_rdB {h : Hp} {c m : Nat} {z : Bool} (r : Row1 h c m [.bool z]) : RdR h [] 1 (bC [z]) (.sl c m 0 1 1) := RdR.own (ls := bC [z]) r (bC_one _) (by simp) (by simp [bC])

theorem some22_ev {st : St} (hf : Fresh st) {a : Au} (wf : WFA a) {ka kn : AV} {ls : List (List AV)} (hA : RdR st.h.get [] 1 (bC a.acc) ka) (hN : LsR st.h.get a.nx kn ls) {k : Nat} (hk : k < a.tr) {w : List Nat} {kw : AV} (hw : RdR st.h.get [] 1 (zC (zN w)) kw) (hwl : w.length ≤ 100) (hwk : LetK (2 ^ (a.tr - 1)) w) : ∃ v st', Ev Tryd.prog envP 21 [.agg [.int .i64 (((a.tr : Nat) : Int)), ka, kn], .int .i64 (((k : Nat) : Int)), kw] st v st' ∧ ∃ b, v = .bool b ∧ ((∃ j, j < a.n ∧ ∃ z ∈ setAt a k w (w.length + j), a.ok z.toNat = true) → b = true) ∧ Qt st st' := by
 have hac := hA.cell; have hnc := hN.r.cell; have hwc := hw.cell; have hmo := wf.most; have hps := wf.pos; have hln := wf.len; have hen : a.n = a.acc.length := rfl; have htr := wf.tr; have hp6 := pow_le64 (T := a.tr - 1) (by omega)
 have hrep : (List.replicate a.n false).length = a.n := List.length_replicate ..
 have hset := setAt_set wf hk hwk
 refine ev_fn rfl Tryd.func21 rfl Tryd.ntmps21 rfl (by decide) (by simp) fun T hT => ?_
 have K : KnT [(0, _), (1, _), (2, _)] T := (.cons (hT 0) (.cons (hT 1) (.cons (hT 2) .nil)))
 have M := Mem.start hf
 refine w_seq <| w_region ?_
 refine wr_box K M rfl (cl_cons rfl (cl_cons hA.cell (cl_cons hN.r.cell cl_nil))) (by decide) fun c3 _ _ K M => ?_
 refine o1 K (os_assign rfl) rfl fun _ K => wr_nil ?_
 show W _ _ _ _ _ _ _
 refine w_seq <| w_region <| o1 K (os_fieldAddr fo_api_Auto_1 rfl) rfl fun _ K => o1 K (os_load rfl (M.load (k := 0) rfl (part_one tk_S_bool rfl))) rfl fun _ K => o1 K (os_lenL un_S_bool rfl rfl (hA.len.trans (congrArg some (bC_len _)))) rfl fun _ K => ?_
 refine wr_makeS AV.bool false (n := a.n) K M sl_S_bool ze_bool rfl (by omega) rfl fun c15 _ _ K M => ?_
 refine o1 K (os_assign rfl) rfl fun _ K => wr_nil ?_
 show W _ _ _ _ _ _ _
 refine w_seq <| w_region <| o1 K (os_move rfl) rfl fun _ K => ?_
 obtain ⟨y17, hi17⟩ : ∃ x, (List.replicate a.n false)[0]? = some x := ⟨_, List.getElem?_eq_getElem (by omega)⟩
 refine o1 K (os_indexAddr (j := 0) el_S_bool rfl rfl (by omega)) rfl fun _ K => ?_
 refine wr_store1 (k := 0) K M rfl rfl rfl sz_bool rfl (om_set AV.bool true (by omega)) fun _ M => ?_
 refine wr_nil ?_
 show W _ _ _ _ _ _ _
 refine w_seq <| w_seq <| w_region <| o1 K (os_assign rfl) rfl fun _ K => wr_nil ?_
 show W _ _ _ _ _ _ _
 refine w_block ?_
 refine w_loop (fun mm1 T st9 => ∃ (i : Nat) (cn : Nat) (now : List Bool), mm1 = w.length + a.n - i ∧ KnT [(1, .int .i64 (((k : Nat) : Int))), (2, kw), (3, .ptr c3 0 0), (7, .sl cn 0 0 a.n 1), (8, .int .i64 (((i : Nat) : Int)))] T ∧ Mem st.h.get st.n [] st9 [(cn, 0, (now.map AV.bool)), (c3, 0, [.int .i64 (((a.tr : Nat) : Int)), ka, kn])] ∧ i ≤ w.length + a.n ∧ VecS a.n now (setAt a k w i) ∧ (∀ j, w.length + j < i → ∀ z ∈ setAt a k w (w.length + j), a.ok z.toNat = false)) (fun mm1 T st9 hI => ?_) _ _ _ ⟨0, c15, _, rfl, (.cons (K _ _ rfl) (.cons (K _ _ rfl) (.cons (K _ _ rfl) (.cons (K _ _ rfl) (.cons (K _ _ rfl) .nil))))), M.less (.refl _), (Nat.zero_le _), (VecS.zero wf.pos), (fun j hj => absurd hj (Nat.not_lt_zero _))⟩
 obtain ⟨i, cn, now, rfl, K, M, hi, hvec, hno⟩ := hI
 have hnl := hvec.1
 refine w_seq <| w_seq <| w_region <| o1 K (os_move rfl) rfl fun _ K => o1 K (os_move rfl) rfl fun _ K => o1 K (os_lenL un_S_int rfl rfl (hw.len.trans (congrArg some (by rw [zC_len, List.length_map])))) rfl fun _ K => o1 K (os_fieldAddr fo_api_Auto_1 rfl) rfl fun _ K => o1 K (os_load rfl (M.load (k := 1) rfl (part_one tk_S_bool rfl))) rfl fun _ K => o1 K (os_lenL un_S_bool rfl rfl (hA.len.trans (congrArg some (bC_len _)))) rfl fun _ K => ?_
 refine o1 K (os_add rfl rfl (by omega) (by omega)) rfl fun _ K => o1 K (os_lss rfl rfl) rfl fun _ K => wr_nil ?_
 show W _ _ _ _ _ _ _
 refine w_cond (K.opd rfl) (fun h25 => ?_) (fun h25 => ?_)
 ·have hb25 := h25
  replace h25 := of_decide_eq_true h25
  refine w_skip ?_
  show W _ _ _ _ _ _ _
  refine w_seq <| w_block ?_
  refine w_cut (J := fun T st9 => KnT [(1, .int .i64 (((k : Nat) : Int))), (2, kw), (3, .ptr c3 0 0), (7, .sl cn 0 0 a.n 1), (8, .int .i64 (((i : Nat) : Int)))] T ∧ Mem st.h.get st.n [] st9 [(cn, 0, (now.map AV.bool)), (c3, 0, [.int .i64 (((a.tr : Nat) : Int)), ka, kn])] ∧ (w.length ≤ i → ∀ z ∈ setAt a k w i, a.ok z.toNat = false)) ?_ (fun T st9 hJ => ?_)
  ·refine w_seq <| w_region <| o1 K (os_move rfl) rfl fun _ K => o1 K (os_move rfl) rfl fun _ K => o1 K (os_lenL un_S_int rfl rfl (hw.len.trans (congrArg some (by rw [zC_len, List.length_map])))) rfl fun _ K => o1 K (os_geq rfl rfl) rfl fun _ K => ?_
   refine oB K (os_move rfl) rfl fun b32 _ e32 K => ?_
   cases b32
   ·replace e32 := of_decide_eq_false e32
    refine gn K rfl rfl rfl rfl fun _ K => gn K rfl rfl rfl rfl fun _ K => gn K rfl rfl rfl rfl fun _ K => o1 K (os_pick rfl rfl rfl) rfl fun _ K => wr_nil ?_
    show W _ _ _ _ _ _ _
    refine w_cond (t := false) (K.opd rfl) (fun h => by cases h) (fun _ => ?_)
    refine w_skip ?_
    exact ⟨(.cons (K _ _ rfl) (.cons (K _ _ rfl) (.cons (K _ _ rfl) (.cons (K _ _ rfl) (.cons (K _ _ rfl) .nil))))), M.less (.refl _), (fun h9 => by first | (exfalso; omega) | exact no_more hvec (hset i).2 hbacc35 (by simpa using hb36))⟩
   replace e32 := of_decide_eq_true e32
   refine og K rfl rfl (os_load rfl (M.load (k := 1) rfl (part_agg tk_api_Auto rfl))) rfl fun _ K => og K rfl rfl (os_move rfl) rfl fun _ K => ?_
   have hrl35 := Row1.rdM (f := AV.bool) (M.row1 (k := 0) rfl) hvec.1 (by rw [hvec.1]; omega)
   obtain ⟨v35, st35, ev35, bacc35, rfl, hbacc35, q35⟩ := acc22_ev (now := now) M.fresh wf (RdR.mem M hA (by simp)) (hN.old hf fun c hc => M.old c hc (by simp)) hrl35 hvec.1
   refine og K rfl rfl (os_call rfl ev35) rfl fun _ K => ?_
   replace M := M.quiet q35
   refine o1 K (os_pick rfl rfl rfl) rfl fun _ K => wr_nil ?_
   show W _ _ _ _ _ _ _
   refine w_cond (K.opd rfl) (fun h36 => ?_) (fun h36 => ?_)
   ·have hb36 := h36
    refine w_seq <| w_region <| o1 K (os_assign rfl) rfl fun _ K => wr_nil ?_
    show W _ _ _ _ _ _ _
    refine w_ret ?_
    refine ⟨.inr rfl, _, (res_one (rs_tmp K rfl)), ?_⟩
    exact ⟨true, rfl, fun _ => rfl, M.qt⟩
   have hb36 := h36
   refine w_skip ?_
   exact ⟨(.cons (K _ _ rfl) (.cons (K _ _ rfl) (.cons (K _ _ rfl) (.cons (K _ _ rfl) (.cons (K _ _ rfl) .nil))))), M.less (.refl _), (fun h9 => by first | (exfalso; omega) | exact no_more hvec (hset i).2 hbacc35 (by simpa using hb36))⟩
  obtain ⟨K, M, hnow⟩ := hJ
  refine w_seq <| w_region <| o1 K (os_assign rfl) rfl fun _ K => wr_nil ?_
  show W _ _ _ _ _ _ _
  refine w_seq <| w_seq <| w_region <| o1 K (os_move rfl) rfl fun _ K => o1 K (os_move rfl) rfl fun _ K => o1 K (os_lenL un_S_int rfl rfl (hw.len.trans (congrArg some (by rw [zC_len, List.length_map])))) rfl fun _ K => o1 K (os_lss rfl rfl) rfl fun _ K => wr_nil ?_
  show W _ _ _ _ _ _ _
  refine w_cond (K.opd rfl) (fun h40 => ?_) (fun h40 => ?_)
  ·have hb40 := h40
   replace h40 := of_decide_eq_true h40
   refine w_region <| o1 K (os_move rfl) rfl fun _ K => o1 K (os_move rfl) rfl fun _ K => ?_
   obtain ⟨y43, hi43⟩ : ∃ x, w[i]? = some x := ⟨_, List.getElem?_eq_getElem (by omega)⟩
   obtain ⟨x43, m43, f43, q43, _, la43, lo43, lp43⟩ := (RdR.mem M hw (by simp)).load (i := i) (cs := _) (zN_get hi43)
   refine o1 K (os_indexAddr (j := i) el_S_int (congrArg some q43) rfl (by rw [zC_len, List.length_map]; omega)) rfl fun _ K => o1 K (os_load rfl (lo43 _ 0 _ tk_int rfl)) rfl fun _ K => ?_
   refine wr_bs K M sl_S_int ze_int rfl rfl rfl rfl rfl fun c45 _ _ K M => ?_
   refine o1 K (os_assign rfl) rfl fun _ K => wr_nil ?_
   show W _ _ _ _ _ _ _
   refine w_seq ?_
   have hcl : lt0 w i = y43 := lt0_at hi43
   have hc6 := hwk y43 (List.mem_of_getElem? hi43)
   have hc64 : y43 ≤ 64 := by omega
   have hu0 := put_lt hk hc6 (u := 0) (by decide)
   have hu1 := put_lt hk hc6 (u := 1) (by decide)
   refine w_region <| o1 K (os_fieldAddr fo_api_Auto_1 rfl) rfl fun _ K => o1 K (os_load rfl (M.load (k := 2) rfl (part_one tk_S_bool rfl))) rfl fun _ K => o1 K (os_lenL un_S_bool rfl rfl (hA.len.trans (congrArg some (bC_len _)))) rfl fun _ K => ?_
   refine wr_makeS AV.bool false (n := a.n) K M sl_S_bool ze_bool rfl (by omega) rfl fun c50 _ _ K M => ?_
   refine o1 K (os_assign rfl) rfl fun _ K => wr_nil ?_
   show W _ _ _ _ _ _ _
   refine w_seq <| w_seq <| w_region <| o1 K (os_assign rfl) rfl fun _ K => wr_nil ?_
   show W _ _ _ _ _ _ _
   refine w_block ?_
   refine w_loop (fun mm2 T st9 => ∃ (j : Nat) (nxt : List Bool), mm2 = a.n - j ∧ KnT [(1, .int .i64 (((k : Nat) : Int))), (2, kw), (3, .ptr c3 0 0), (7, .sl cn 0 0 a.n 1), (8, .int .i64 (((i : Nat) : Int))), (9, .sl c45 0 0 1 1), (10, .sl c50 0 0 a.n 1), (11, .int .i64 (((j : Nat) : Int)))] T ∧ Mem st.h.get st.n [] st9 [(c50, 0, (nxt.map AV.bool)), (c45, 0, [.int .i64 (((y43 : Nat) : Int))]), (cn, 0, (now.map AV.bool)), (c3, 0, [.int .i64 (((a.tr : Nat) : Int)), ka, kn])] ∧ j ≤ a.n ∧ VecN a k (lt0 w i) now nxt j) (fun mm2 T st9 hI => ?_) _ _ _ ⟨0, _, rfl, (.cons (K _ _ rfl) (.cons (K _ _ rfl) (.cons (K _ _ rfl) (.cons (K _ _ rfl) (.cons (K _ _ rfl) (.cons (K _ _ rfl) (.cons (K _ _ rfl) (.cons (K _ _ rfl) .nil)))))))), M.less (.refl _), (Nat.zero_le _), (VecN.zero _ _ _ _)⟩
   obtain ⟨j, nxt, rfl, K, M, hj, hvn⟩ := hI
   have hxl := hvn.1
   refine w_seq <| w_seq <| w_region <| o1 K (os_move rfl) rfl fun _ K => o1 K (os_move rfl) rfl fun _ K => o1 K (os_lenL un_S_bool rfl rfl rfl) rfl fun _ K => o1 K (os_lss rfl rfl) rfl fun _ K => wr_nil ?_
   show W _ _ _ _ _ _ _
   refine w_cond (K.opd rfl) (fun h54 => ?_) (fun h54 => ?_)
   ·have hb54 := h54
    replace h54 := of_decide_eq_true h54
    refine w_skip ?_
    show W _ _ _ _ _ _ _
    refine w_seq <| w_block <| w_seq <| w_region <| o1 K (os_move rfl) rfl fun _ K => o1 K (os_move rfl) rfl fun _ K => ?_
    obtain ⟨y59, hi59⟩ : ∃ x, now[j]? = some x := ⟨_, List.getElem?_eq_getElem (by omega)⟩
    refine o1 K (os_indexAddr (j := j) el_S_bool rfl rfl (by omega)) rfl fun _ K => o1 K (os_load rfl (M.load (k := 2) rfl (part_one tk_bool (om_get AV.bool hi59)))) rfl fun _ K => wr_nil ?_
    show W _ _ _ _ _ _ _
    refine w_cond (K.opd rfl) (fun h60 => ?_) (fun h60 => ?_)
    ·have hb60 := h60
     refine w_seq ?_
     refine w_drawI (l := [(6, 0), (7, 0), (8, 0), (0, 0), (1, 0), (2, 1), (3, 0), (4, 0), (5, 1), (9, 0), (10, 0), (11, 0), (12, 0), (13, 0), (14, 0)]) (by kernel_rfl) ?_
     have Mq := M
     refine d1 rfl K (os_move rfl) rfl rfl fun _ K => d1 rfl K (os_move rfl) rfl rfl fun _ K => ?_
     obtain ⟨v69, st69, ev69, nr69, q69⟩ := put1_ev (k := k) (c := y43) (bs := []) M.fresh (one_rdN (M.row1 (k := 1) rfl)) (by omega) (RdR.nil _ _ _) (by decide) (by omega)
     refine dA rfl K (os_call rfl ev69) rfl rfl fun _ K => ?_
     obtain ⟨Ap69, hAp69, M⟩ := M.callAcc q69 nr69
     replace M := Mem.cast (M' := ((c50, 0, (nxt.map AV.bool)) :: (c45, 0, [.int .i64 (((y43 : Nat) : Int))]) :: (cn, 0, (now.map AV.bool)) :: (c3, 0, [.int .i64 (((a.tr : Nat) : Int)), ka, kn]) :: (Ap69 ++ []))) M (by first | (simp only [List.append_assoc, List.cons_append, List.nil_append, List.append_nil, List.set_cons_zero, List.set_cons_succ]; done) | (simp only [List.append_assoc, List.cons_append, List.nil_append, List.append_nil, List.set_cons_zero, List.set_cons_succ]; rfl))
     have Mp := Mq
     have Mq := M
     refine d1 rfl K (os_move rfl) rfl rfl fun _ K => d1 rfl K (os_fieldAddr fo_api_Auto_2 rfl) rfl rfl fun _ K => ?_
     refine wd_load1 rfl K rfl (M.load (k := 3) rfl (part_one tk_S_S_int rfl)) (Mp.load (k := 3) rfl (part_one tk_S_S_int rfl)) (eqV_one (eqOk_len hN.len)) rfl (by decide) fun _ K => ?_
     refine d1 rfl K (os_move rfl) rfl rfl fun _ K => ?_
     obtain ⟨s65, hi65⟩ : ∃ x, a.nx[j]? = some x := ⟨_, List.getElem?_eq_getElem (by omega)⟩
     obtain ⟨_, hc65, w65, rfl, hr65, hz65⟩ := hN.at_ _ _ hi65
     have hw65 := wf.row s65 (List.mem_of_getElem? hi65)
     have hl65 : s65.length = 2 ^ a.tr := hw65.1
     obtain ⟨x65, m65, f65, q65, _, la65, lo65, lp65, la'65, lo'65, lp'65⟩ := RdR.load2 (RdR.mem M hN.r (by simp)) (RdR.mem Mp hN.r (by simp)) (i := j) (cs := _) hc65
     refine d1 rfl K (os_indexAddr (j := j) el_S_S_int (congrArg some q65) rfl (by rw [hN.ln]; omega)) rfl rfl fun _ K => ?_
     refine wd_load1 rfl K rfl (lo65 _ 0 _ tk_S_int rfl) (lo'65 _ 0 _ tk_S_int rfl) (eqV_one (eqOk_len (hr65.len.trans (congrArg some (zC_len _))))) rfl (by decide) fun _ K => ?_
     obtain ⟨x70, m70, f70, q70, _, la70, lo70, lp70⟩ := (Mem.accR (L := [(c50, 0, (nxt.map AV.bool)), (c45, 0, [.int .i64 (((y43 : Nat) : Int))]), (cn, 0, (now.map AV.bool)), (c3, 0, [.int .i64 (((a.tr : Nat) : Int)), ka, kn])]) (A := Ap69) (B := []) M hAp69).load (i := 0) (cs := _) rfl
     refine d1 rfl K (os_indexAddr (j := 0) el_S_int (congrArg some q70) rfl (by simp [zC, zN])) rfl rfl fun _ K => d1 rfl K (os_load rfl (lo70 _ 0 _ tk_int rfl)) rfl rfl fun _ K => ?_
     obtain ⟨y72, hi72⟩ : ∃ x, s65[(putL k y43 0)]? = some x := ⟨_, List.getElem?_eq_getElem (by omega)⟩
     have hb72 := hw65.2 y72 (List.mem_of_getElem? hi72)
     obtain ⟨x72, m72, f72, q72, _, la72, lo72, lp72, la'72, lo'72, lp'72⟩ := RdR.load2 (RdR.mem M hr65 (by simp)) (RdR.mem Mp hr65 (by simp)) (i := (putL k y43 0)) (cs := _) (zC_get hi72)
     refine d1 rfl K (os_indexAddr (j := (putL k y43 0)) el_S_int (congrArg some q72) rfl (by rw [zC_len]; omega)) rfl rfl fun _ K => d1 rfl K (os_load rfl (lo72 _ 0 _ tk_int rfl)) rfl rfl fun _ K => ?_
     obtain ⟨y74, hi74⟩ : ∃ x, nxt[(y72).toNat]? = some x := ⟨_, List.getElem?_eq_getElem (by omega)⟩
     refine d1 rfl K (os_indexAddr (j := (y72).toNat) el_S_bool rfl (congrArg (fun z => some (AV.int .i64 z)) (by omega : _ = (((y72).toNat : Nat) : Int))) (by omega)) rfl rfl fun _ K => ?_
     refine wd_store1 (k := 0) rfl K M rfl rfl rfl sz_bool rfl (om_set AV.bool true (by omega)) fun _ M => ?_
     have Mp := Mq
     have Mq := M
     refine wd_nil ?_
     show W _ _ _ _ _ _ _
     refine w_drawI (l := [(6, 0), (7, 0), (8, 0), (9, 0), (0, 0), (1, 0), (2, 1), (3, 0), (4, 0), (5, 1), (10, 0), (11, 0), (12, 0), (13, 0), (14, 0), (15, 0)]) (by kernel_rfl) ?_
     have Mq := M
     refine d1 rfl K (os_move rfl) rfl rfl fun _ K => ?_
     refine wd_bs rfl K M sl_S_bool ze_bool rfl rfl rfl rfl rfl fun c82 _ _ K M => ?_
     refine d1 rfl K (os_move rfl) rfl rfl fun _ K => ?_
     obtain ⟨v84, st84, ev84, nr84, q84⟩ := put1_ev (k := k) (c := y43) (bs := [true]) M.fresh (one_rdN (M.row1 (k := 2) rfl)) (by omega) (one_rdB (M.row1 (k := 0) rfl)) (by decide) (by omega)
     refine dA rfl K (os_call rfl ev84) rfl rfl fun _ K => ?_
     obtain ⟨Ap84, hAp84, M⟩ := M.callAcc q84 nr84
     replace M := Mem.cast (M' := ((c82, 0, [.bool true]) :: (c50, 0, ((nxt.set ((y72).toNat) true).map AV.bool)) :: (c45, 0, [.int .i64 (((y43 : Nat) : Int))]) :: (cn, 0, (now.map AV.bool)) :: (c3, 0, [.int .i64 (((a.tr : Nat) : Int)), ka, kn]) :: (Ap69 ++ (Ap84 ++ [])))) M (by first | (simp only [List.append_assoc, List.cons_append, List.nil_append, List.append_nil, List.set_cons_zero, List.set_cons_succ]; done) | (simp only [List.append_assoc, List.cons_append, List.nil_append, List.append_nil, List.set_cons_zero, List.set_cons_succ]; rfl))
     have Mp := Mq
     have Mq := M
     refine d1 rfl K (os_move rfl) rfl rfl fun _ K => d1 rfl K (os_fieldAddr fo_api_Auto_2 rfl) rfl rfl fun _ K => ?_
     refine wd_load1 rfl K rfl (M.load (k := 4) rfl (part_one tk_S_S_int rfl)) (Mp.load (k := 3) rfl (part_one tk_S_S_int rfl)) (eqV_one (eqOk_len hN.len)) rfl (by decide) fun _ K => ?_
     refine d1 rfl K (os_move rfl) rfl rfl fun _ K => ?_
     obtain ⟨s79, hi79⟩ : ∃ x, a.nx[j]? = some x := ⟨_, List.getElem?_eq_getElem (by omega)⟩
     obtain ⟨_, hc79, w79, rfl, hr79, hz79⟩ := hN.at_ _ _ hi79
     have hw79 := wf.row s79 (List.mem_of_getElem? hi79)
     have hl79 : s79.length = 2 ^ a.tr := hw79.1
     obtain ⟨x79, m79, f79, q79, _, la79, lo79, lp79, la'79, lo'79, lp'79⟩ := RdR.load2 (RdR.mem M hN.r (by simp)) (RdR.mem Mp hN.r (by simp)) (i := j) (cs := _) hc79
     refine d1 rfl K (os_indexAddr (j := j) el_S_S_int (congrArg some q79) rfl (by rw [hN.ln]; omega)) rfl rfl fun _ K => ?_
     refine wd_load1 rfl K rfl (lo79 _ 0 _ tk_S_int rfl) (lo'79 _ 0 _ tk_S_int rfl) (eqV_one (eqOk_len (hr79.len.trans (congrArg some (zC_len _))))) rfl (by decide) fun _ K => ?_
     obtain ⟨x85, m85, f85, q85, _, la85, lo85, lp85⟩ := (Mem.accR (L := ((c82, 0, [.bool true]) :: (c50, 0, ((nxt.set ((y72).toNat) true).map AV.bool)) :: (c45, 0, [.int .i64 (((y43 : Nat) : Int))]) :: (cn, 0, (now.map AV.bool)) :: (c3, 0, [.int .i64 (((a.tr : Nat) : Int)), ka, kn]) :: (Ap69 ++ []))) (A := Ap84) (B := []) (Mem.cast (M := ((c82, 0, [.bool true]) :: (c50, 0, ((nxt.set ((y72).toNat) true).map AV.bool)) :: (c45, 0, [.int .i64 (((y43 : Nat) : Int))]) :: (cn, 0, (now.map AV.bool)) :: (c3, 0, [.int .i64 (((a.tr : Nat) : Int)), ka, kn]) :: (Ap69 ++ (Ap84 ++ [])))) (M' := ((c82, 0, [.bool true]) :: (c50, 0, ((nxt.set ((y72).toNat) true).map AV.bool)) :: (c45, 0, [.int .i64 (((y43 : Nat) : Int))]) :: (cn, 0, (now.map AV.bool)) :: (c3, 0, [.int .i64 (((a.tr : Nat) : Int)), ka, kn]) :: (Ap69 ++ [])) ++ (Ap84 ++ [])) M (by first | (simp only [List.append_assoc, List.cons_append, List.nil_append, List.append_nil, List.set_cons_zero, List.set_cons_succ]; done) | (simp only [List.append_assoc, List.cons_append, List.nil_append, List.append_nil, List.set_cons_zero, List.set_cons_succ]; rfl))) hAp84).load (i := 0) (cs := _) rfl
     refine d1 rfl K (os_indexAddr (j := 0) el_S_int (congrArg some q85) rfl (by simp [zC, zN])) rfl rfl fun _ K => d1 rfl K (os_load rfl (lo85 _ 0 _ tk_int rfl)) rfl rfl fun _ K => ?_
     obtain ⟨y87, hi87⟩ : ∃ x, s79[(putL k y43 1)]? = some x := ⟨_, List.getElem?_eq_getElem (by omega)⟩
     have hb87 := hw79.2 y87 (List.mem_of_getElem? hi87)
     obtain ⟨x87, m87, f87, q87, _, la87, lo87, lp87, la'87, lo'87, lp'87⟩ := RdR.load2 (RdR.mem M hr79 (by simp)) (RdR.mem Mp hr79 (by simp)) (i := (putL k y43 1)) (cs := _) (zC_get hi87)
     refine d1 rfl K (os_indexAddr (j := (putL k y43 1)) el_S_int (congrArg some q87) rfl (by rw [zC_len]; omega)) rfl rfl fun _ K => d1 rfl K (os_load rfl (lo87 _ 0 _ tk_int rfl)) rfl rfl fun _ K => ?_
     obtain ⟨y89, hi89⟩ : ∃ x, (nxt.set ((y72).toNat) true)[(y87).toNat]? = some x := ⟨_, List.getElem?_eq_getElem (by simp only [List.length_set]; omega)⟩
     refine d1 rfl K (os_indexAddr (j := (y87).toNat) el_S_bool rfl (congrArg (fun z => some (AV.int .i64 z)) (by omega : _ = (((y87).toNat : Nat) : Int))) (by omega)) rfl rfl fun _ K => ?_
     refine wd_store1 (k := 1) rfl K M rfl rfl rfl sz_bool rfl (om_set AV.bool true (by simp only [List.length_set]; omega)) fun _ M => ?_
     have Mp := Mq
     have Mq := M
     refine wd_nil ?_
     show W _ _ _ _ _ _ _
     refine w_region <| o1 K (os_move rfl) rfl fun _ K => o1 K (os_add rfl rfl (by omega) (by omega)) rfl fun _ K => o1 K (os_assign rfl) rfl fun _ K => wr_nil ?_
     exact ⟨_, (by omega), j + 1, _, rfl, (.cons (K _ _ rfl) (.cons (K _ _ rfl) (.cons (K _ _ rfl) (.cons (K _ _ rfl) (.cons (K _ _ rfl) (.cons (K _ _ rfl) (.cons (K _ _ rfl) (.cons (K _ _ rfl) .nil)))))))), M.less (.cons _ (.cons_cons _ (.cons_cons _ (.cons_cons _ (.cons_cons _ (List.nil_sublist _)))))), (by omega), (hvn.yes (by rw [bvl_at hi59]; first | assumption | simp_all) (by rw [hcl]; exact go_row hi65 hi72) (by rw [hcl]; exact go_row hi79 hi87) (by omega) (by omega))⟩
    have hb60 := h60
    refine w_skip ?_
    show W _ _ _ _ _ _ _
    refine w_region <| o1 K (os_move rfl) rfl fun _ K => o1 K (os_add rfl rfl (by omega) (by omega)) rfl fun _ K => o1 K (os_assign rfl) rfl fun _ K => wr_nil ?_
    exact ⟨_, (by omega), j + 1, _, rfl, (.cons (K _ _ rfl) (.cons (K _ _ rfl) (.cons (K _ _ rfl) (.cons (K _ _ rfl) (.cons (K _ _ rfl) (.cons (K _ _ rfl) (.cons (K _ _ rfl) (.cons (K _ _ rfl) .nil)))))))), M.less (.refl _), (by omega), (hvn.no (by rw [bvl_at hi59]; first | assumption | simp_all))⟩
   have hb54 := h54
   replace h54 := of_decide_eq_false h54
   refine w_exit ?_
   show W _ _ _ _ _ _ _
   refine w_region <| o1 K (os_move rfl) rfl fun _ K => o1 K (os_assign rfl) rfl fun _ K => wr_nil ?_
   show W _ _ _ _ _ _ _
   refine w_region <| o1 K (os_move rfl) rfl fun _ K => o1 K (os_add rfl rfl (by omega) (by omega)) rfl fun _ K => o1 K (os_assign rfl) rfl fun _ K => wr_nil ?_
   exact ⟨_, (by omega), i + 1, c50, _, rfl, (.cons (K _ _ rfl) (.cons (K _ _ rfl) (.cons (K _ _ rfl) (.cons (K _ _ rfl) (.cons (K _ _ rfl) .nil))))), M.less (.cons_cons _ (.cons _ (.cons _ (.cons_cons _ (.refl _))))), (by omega), (by rw [setAt_succ]; exact VecN.done (by rwa [show j = a.n by omega] at hvn) hvec (hset i).2), (fun j' hj' => by rcases Nat.lt_succ_iff_lt_or_eq.1 hj' with h | h; exact hno j' h; first | (exfalso; omega) | (rw [h]; exact hnow (by omega)))⟩
  have hb40 := h40
  replace h40 := of_decide_eq_false h40
  refine w_region ?_
  refine wr_bs K M sl_S_int ze_int rfl rfl rfl rfl rfl fun c46 _ _ K M => ?_
  refine o1 K (os_assign rfl) rfl fun _ K => wr_nil ?_
  show W _ _ _ _ _ _ _
  refine w_seq ?_
  have hcl : lt0 w i = 0 := lt0_off (by omega)
  have hc6 : 0 < 2 ^ (a.tr - 1) := Nat.two_pow_pos _
  have hu0 := put_lt hk hc6 (u := 0) (by decide)
  have hu1 := put_lt hk hc6 (u := 1) (by decide)
  refine w_region <| o1 K (os_fieldAddr fo_api_Auto_1 rfl) rfl fun _ K => o1 K (os_load rfl (M.load (k := 2) rfl (part_one tk_S_bool rfl))) rfl fun _ K => o1 K (os_lenL un_S_bool rfl rfl (hA.len.trans (congrArg some (bC_len _)))) rfl fun _ K => ?_
  refine wr_makeS AV.bool false (n := a.n) K M sl_S_bool ze_bool rfl (by omega) rfl fun c50 _ _ K M => ?_
  refine o1 K (os_assign rfl) rfl fun _ K => wr_nil ?_
  show W _ _ _ _ _ _ _
  refine w_seq <| w_seq <| w_region <| o1 K (os_assign rfl) rfl fun _ K => wr_nil ?_
  show W _ _ _ _ _ _ _
  refine w_block ?_
  refine w_loop (fun mm3 T st9 => ∃ (j : Nat) (nxt : List Bool), mm3 = a.n - j ∧ KnT [(1, .int .i64 (((k : Nat) : Int))), (2, kw), (3, .ptr c3 0 0), (7, .sl cn 0 0 a.n 1), (8, .int .i64 (((i : Nat) : Int))), (9, .sl c46 0 0 1 1), (10, .sl c50 0 0 a.n 1), (11, .int .i64 (((j : Nat) : Int)))] T ∧ Mem st.h.get st.n [] st9 [(c50, 0, (nxt.map AV.bool)), (c46, 0, [.int .i64 0]), (cn, 0, (now.map AV.bool)), (c3, 0, [.int .i64 (((a.tr : Nat) : Int)), ka, kn])] ∧ j ≤ a.n ∧ VecN a k (lt0 w i) now nxt j) (fun mm3 T st9 hI => ?_) _ _ _ ⟨0, _, rfl, (.cons (K _ _ rfl) (.cons (K _ _ rfl) (.cons (K _ _ rfl) (.cons (K _ _ rfl) (.cons (K _ _ rfl) (.cons (K _ _ rfl) (.cons (K _ _ rfl) (.cons (K _ _ rfl) .nil)))))))), M.less (.refl _), (Nat.zero_le _), (VecN.zero _ _ _ _)⟩
  obtain ⟨j, nxt, rfl, K, M, hj, hvn⟩ := hI
  have hxl := hvn.1
  refine w_seq <| w_seq <| w_region <| o1 K (os_move rfl) rfl fun _ K => o1 K (os_move rfl) rfl fun _ K => o1 K (os_lenL un_S_bool rfl rfl rfl) rfl fun _ K => o1 K (os_lss rfl rfl) rfl fun _ K => wr_nil ?_
  show W _ _ _ _ _ _ _
  refine w_cond (K.opd rfl) (fun h54 => ?_) (fun h54 => ?_)
  ·have hb54 := h54
   replace h54 := of_decide_eq_true h54
   refine w_skip ?_
   show W _ _ _ _ _ _ _
   refine w_seq <| w_block <| w_seq <| w_region <| o1 K (os_move rfl) rfl fun _ K => o1 K (os_move rfl) rfl fun _ K => ?_
   obtain ⟨y59, hi59⟩ : ∃ x, now[j]? = some x := ⟨_, List.getElem?_eq_getElem (by omega)⟩
   refine o1 K (os_indexAddr (j := j) el_S_bool rfl rfl (by omega)) rfl fun _ K => o1 K (os_load rfl (M.load (k := 2) rfl (part_one tk_bool (om_get AV.bool hi59)))) rfl fun _ K => wr_nil ?_
   show W _ _ _ _ _ _ _
   refine w_cond (K.opd rfl) (fun h60 => ?_) (fun h60 => ?_)
   ·have hb60 := h60
    refine w_seq ?_
    refine w_drawI (l := [(6, 0), (7, 0), (8, 0), (0, 0), (1, 0), (2, 1), (3, 0), (4, 0), (5, 1), (9, 0), (10, 0), (11, 0), (12, 0), (13, 0), (14, 0)]) (by kernel_rfl) ?_
    have Mq := M
    refine d1 rfl K (os_move rfl) rfl rfl fun _ K => d1 rfl K (os_move rfl) rfl rfl fun _ K => ?_
    obtain ⟨v69, st69, ev69, nr69, q69⟩ := put1_ev (k := k) (c := 0) (bs := []) M.fresh (one_rdN (M.row1 (k := 1) rfl)) (by omega) (RdR.nil _ _ _) (by decide) (by omega)
    refine dA rfl K (os_call rfl ev69) rfl rfl fun _ K => ?_
    obtain ⟨Ap69, hAp69, M⟩ := M.callAcc q69 nr69
    replace M := Mem.cast (M' := ((c50, 0, (nxt.map AV.bool)) :: (c46, 0, [.int .i64 0]) :: (cn, 0, (now.map AV.bool)) :: (c3, 0, [.int .i64 (((a.tr : Nat) : Int)), ka, kn]) :: (Ap69 ++ []))) M (by first | (simp only [List.append_assoc, List.cons_append, List.nil_append, List.append_nil, List.set_cons_zero, List.set_cons_succ]; done) | (simp only [List.append_assoc, List.cons_append, List.nil_append, List.append_nil, List.set_cons_zero, List.set_cons_succ]; rfl))
    have Mp := Mq
    have Mq := M
    refine d1 rfl K (os_move rfl) rfl rfl fun _ K => d1 rfl K (os_fieldAddr fo_api_Auto_2 rfl) rfl rfl fun _ K => ?_
    refine wd_load1 rfl K rfl (M.load (k := 3) rfl (part_one tk_S_S_int rfl)) (Mp.load (k := 3) rfl (part_one tk_S_S_int rfl)) (eqV_one (eqOk_len hN.len)) rfl (by decide) fun _ K => ?_
    refine d1 rfl K (os_move rfl) rfl rfl fun _ K => ?_
    obtain ⟨s65, hi65⟩ : ∃ x, a.nx[j]? = some x := ⟨_, List.getElem?_eq_getElem (by omega)⟩
    obtain ⟨_, hc65, w65, rfl, hr65, hz65⟩ := hN.at_ _ _ hi65
    have hw65 := wf.row s65 (List.mem_of_getElem? hi65)
    have hl65 : s65.length = 2 ^ a.tr := hw65.1
    obtain ⟨x65, m65, f65, q65, _, la65, lo65, lp65, la'65, lo'65, lp'65⟩ := RdR.load2 (RdR.mem M hN.r (by simp)) (RdR.mem Mp hN.r (by simp)) (i := j) (cs := _) hc65
    refine d1 rfl K (os_indexAddr (j := j) el_S_S_int (congrArg some q65) rfl (by rw [hN.ln]; omega)) rfl rfl fun _ K => ?_
    refine wd_load1 rfl K rfl (lo65 _ 0 _ tk_S_int rfl) (lo'65 _ 0 _ tk_S_int rfl) (eqV_one (eqOk_len (hr65.len.trans (congrArg some (zC_len _))))) rfl (by decide) fun _ K => ?_
    obtain ⟨x70, m70, f70, q70, _, la70, lo70, lp70⟩ := (Mem.accR (L := [(c50, 0, (nxt.map AV.bool)), (c46, 0, [.int .i64 0]), (cn, 0, (now.map AV.bool)), (c3, 0, [.int .i64 (((a.tr : Nat) : Int)), ka, kn])]) (A := Ap69) (B := []) M hAp69).load (i := 0) (cs := _) rfl
    refine d1 rfl K (os_indexAddr (j := 0) el_S_int (congrArg some q70) rfl (by simp [zC, zN])) rfl rfl fun _ K => d1 rfl K (os_load rfl (lo70 _ 0 _ tk_int rfl)) rfl rfl fun _ K => ?_
    obtain ⟨y72, hi72⟩ : ∃ x, s65[(putL k 0 0)]? = some x := ⟨_, List.getElem?_eq_getElem (by omega)⟩
    have hb72 := hw65.2 y72 (List.mem_of_getElem? hi72)
    obtain ⟨x72, m72, f72, q72, _, la72, lo72, lp72, la'72, lo'72, lp'72⟩ := RdR.load2 (RdR.mem M hr65 (by simp)) (RdR.mem Mp hr65 (by simp)) (i := (putL k 0 0)) (cs := _) (zC_get hi72)
    refine d1 rfl K (os_indexAddr (j := (putL k 0 0)) el_S_int (congrArg some q72) rfl (by rw [zC_len]; omega)) rfl rfl fun _ K => d1 rfl K (os_load rfl (lo72 _ 0 _ tk_int rfl)) rfl rfl fun _ K => ?_
    obtain ⟨y74, hi74⟩ : ∃ x, nxt[(y72).toNat]? = some x := ⟨_, List.getElem?_eq_getElem (by omega)⟩
    refine d1 rfl K (os_indexAddr (j := (y72).toNat) el_S_bool rfl (congrArg (fun z => some (AV.int .i64 z)) (by omega : _ = (((y72).toNat : Nat) : Int))) (by omega)) rfl rfl fun _ K => ?_
    refine wd_store1 (k := 0) rfl K M rfl rfl rfl sz_bool rfl (om_set AV.bool true (by omega)) fun _ M => ?_
    have Mp := Mq
    have Mq := M
    refine wd_nil ?_
    show W _ _ _ _ _ _ _
    refine w_drawI (l := [(6, 0), (7, 0), (8, 0), (9, 0), (0, 0), (1, 0), (2, 1), (3, 0), (4, 0), (5, 1), (10, 0), (11, 0), (12, 0), (13, 0), (14, 0), (15, 0)]) (by kernel_rfl) ?_
    have Mq := M
    refine d1 rfl K (os_move rfl) rfl rfl fun _ K => ?_
    refine wd_bs rfl K M sl_S_bool ze_bool rfl rfl rfl rfl rfl fun c82 _ _ K M => ?_
    refine d1 rfl K (os_move rfl) rfl rfl fun _ K => ?_
    obtain ⟨v84, st84, ev84, nr84, q84⟩ := put1_ev (k := k) (c := 0) (bs := [true]) M.fresh (one_rdN (M.row1 (k := 2) rfl)) (by omega) (one_rdB (M.row1 (k := 0) rfl)) (by decide) (by omega)
    refine dA rfl K (os_call rfl ev84) rfl rfl fun _ K => ?_
    obtain ⟨Ap84, hAp84, M⟩ := M.callAcc q84 nr84
    replace M := Mem.cast (M' := ((c82, 0, [.bool true]) :: (c50, 0, ((nxt.set ((y72).toNat) true).map AV.bool)) :: (c46, 0, [.int .i64 0]) :: (cn, 0, (now.map AV.bool)) :: (c3, 0, [.int .i64 (((a.tr : Nat) : Int)), ka, kn]) :: (Ap69 ++ (Ap84 ++ [])))) M (by first | (simp only [List.append_assoc, List.cons_append, List.nil_append, List.append_nil, List.set_cons_zero, List.set_cons_succ]; done) | (simp only [List.append_assoc, List.cons_append, List.nil_append, List.append_nil, List.set_cons_zero, List.set_cons_succ]; rfl))
    have Mp := Mq
    have Mq := M
    refine d1 rfl K (os_move rfl) rfl rfl fun _ K => d1 rfl K (os_fieldAddr fo_api_Auto_2 rfl) rfl rfl fun _ K => ?_
    refine wd_load1 rfl K rfl (M.load (k := 4) rfl (part_one tk_S_S_int rfl)) (Mp.load (k := 3) rfl (part_one tk_S_S_int rfl)) (eqV_one (eqOk_len hN.len)) rfl (by decide) fun _ K => ?_
    refine d1 rfl K (os_move rfl) rfl rfl fun _ K => ?_
    obtain ⟨s79, hi79⟩ : ∃ x, a.nx[j]? = some x := ⟨_, List.getElem?_eq_getElem (by omega)⟩
    obtain ⟨_, hc79, w79, rfl, hr79, hz79⟩ := hN.at_ _ _ hi79
    have hw79 := wf.row s79 (List.mem_of_getElem? hi79)
    have hl79 : s79.length = 2 ^ a.tr := hw79.1
    obtain ⟨x79, m79, f79, q79, _, la79, lo79, lp79, la'79, lo'79, lp'79⟩ := RdR.load2 (RdR.mem M hN.r (by simp)) (RdR.mem Mp hN.r (by simp)) (i := j) (cs := _) hc79
    refine d1 rfl K (os_indexAddr (j := j) el_S_S_int (congrArg some q79) rfl (by rw [hN.ln]; omega)) rfl rfl fun _ K => ?_
    refine wd_load1 rfl K rfl (lo79 _ 0 _ tk_S_int rfl) (lo'79 _ 0 _ tk_S_int rfl) (eqV_one (eqOk_len (hr79.len.trans (congrArg some (zC_len _))))) rfl (by decide) fun _ K => ?_
    obtain ⟨x85, m85, f85, q85, _, la85, lo85, lp85⟩ := (Mem.accR (L := ((c82, 0, [.bool true]) :: (c50, 0, ((nxt.set ((y72).toNat) true).map AV.bool)) :: (c46, 0, [.int .i64 0]) :: (cn, 0, (now.map AV.bool)) :: (c3, 0, [.int .i64 (((a.tr : Nat) : Int)), ka, kn]) :: (Ap69 ++ []))) (A := Ap84) (B := []) (Mem.cast (M := ((c82, 0, [.bool true]) :: (c50, 0, ((nxt.set ((y72).toNat) true).map AV.bool)) :: (c46, 0, [.int .i64 0]) :: (cn, 0, (now.map AV.bool)) :: (c3, 0, [.int .i64 (((a.tr : Nat) : Int)), ka, kn]) :: (Ap69 ++ (Ap84 ++ [])))) (M' := ((c82, 0, [.bool true]) :: (c50, 0, ((nxt.set ((y72).toNat) true).map AV.bool)) :: (c46, 0, [.int .i64 0]) :: (cn, 0, (now.map AV.bool)) :: (c3, 0, [.int .i64 (((a.tr : Nat) : Int)), ka, kn]) :: (Ap69 ++ [])) ++ (Ap84 ++ [])) M (by first | (simp only [List.append_assoc, List.cons_append, List.nil_append, List.append_nil, List.set_cons_zero, List.set_cons_succ]; done) | (simp only [List.append_assoc, List.cons_append, List.nil_append, List.append_nil, List.set_cons_zero, List.set_cons_succ]; rfl))) hAp84).load (i := 0) (cs := _) rfl
    refine d1 rfl K (os_indexAddr (j := 0) el_S_int (congrArg some q85) rfl (by simp [zC, zN])) rfl rfl fun _ K => d1 rfl K (os_load rfl (lo85 _ 0 _ tk_int rfl)) rfl rfl fun _ K => ?_
    obtain ⟨y87, hi87⟩ : ∃ x, s79[(putL k 0 1)]? = some x := ⟨_, List.getElem?_eq_getElem (by omega)⟩
    have hb87 := hw79.2 y87 (List.mem_of_getElem? hi87)
    obtain ⟨x87, m87, f87, q87, _, la87, lo87, lp87, la'87, lo'87, lp'87⟩ := RdR.load2 (RdR.mem M hr79 (by simp)) (RdR.mem Mp hr79 (by simp)) (i := (putL k 0 1)) (cs := _) (zC_get hi87)
    refine d1 rfl K (os_indexAddr (j := (putL k 0 1)) el_S_int (congrArg some q87) rfl (by rw [zC_len]; omega)) rfl rfl fun _ K => d1 rfl K (os_load rfl (lo87 _ 0 _ tk_int rfl)) rfl rfl fun _ K => ?_
    obtain ⟨y89, hi89⟩ : ∃ x, (nxt.set ((y72).toNat) true)[(y87).toNat]? = some x := ⟨_, List.getElem?_eq_getElem (by simp only [List.length_set]; omega)⟩
    refine d1 rfl K (os_indexAddr (j := (y87).toNat) el_S_bool rfl (congrArg (fun z => some (AV.int .i64 z)) (by omega : _ = (((y87).toNat : Nat) : Int))) (by omega)) rfl rfl fun _ K => ?_
    refine wd_store1 (k := 1) rfl K M rfl rfl rfl sz_bool rfl (om_set AV.bool true (by simp only [List.length_set]; omega)) fun _ M => ?_
    have Mp := Mq
    have Mq := M
    refine wd_nil ?_
    show W _ _ _ _ _ _ _
    refine w_region <| o1 K (os_move rfl) rfl fun _ K => o1 K (os_add rfl rfl (by omega) (by omega)) rfl fun _ K => o1 K (os_assign rfl) rfl fun _ K => wr_nil ?_
    exact ⟨_, (by omega), j + 1, _, rfl, (.cons (K _ _ rfl) (.cons (K _ _ rfl) (.cons (K _ _ rfl) (.cons (K _ _ rfl) (.cons (K _ _ rfl) (.cons (K _ _ rfl) (.cons (K _ _ rfl) (.cons (K _ _ rfl) .nil)))))))), M.less (.cons _ (.cons_cons _ (.cons_cons _ (.cons_cons _ (.cons_cons _ (List.nil_sublist _)))))), (by omega), (hvn.yes (by rw [bvl_at hi59]; first | assumption | simp_all) (by rw [hcl]; exact go_row hi65 hi72) (by rw [hcl]; exact go_row hi79 hi87) (by omega) (by omega))⟩
   have hb60 := h60
   refine w_skip ?_
   show W _ _ _ _ _ _ _
   refine w_region <| o1 K (os_move rfl) rfl fun _ K => o1 K (os_add rfl rfl (by omega) (by omega)) rfl fun _ K => o1 K (os_assign rfl) rfl fun _ K => wr_nil ?_
   exact ⟨_, (by omega), j + 1, _, rfl, (.cons (K _ _ rfl) (.cons (K _ _ rfl) (.cons (K _ _ rfl) (.cons (K _ _ rfl) (.cons (K _ _ rfl) (.cons (K _ _ rfl) (.cons (K _ _ rfl) (.cons (K _ _ rfl) .nil)))))))), M.less (.refl _), (by omega), (hvn.no (by rw [bvl_at hi59]; first | assumption | simp_all))⟩
  have hb54 := h54
  replace h54 := of_decide_eq_false h54
  refine w_exit ?_
  show W _ _ _ _ _ _ _
  refine w_region <| o1 K (os_move rfl) rfl fun _ K => o1 K (os_assign rfl) rfl fun _ K => wr_nil ?_
  show W _ _ _ _ _ _ _
  refine w_region <| o1 K (os_move rfl) rfl fun _ K => o1 K (os_add rfl rfl (by omega) (by omega)) rfl fun _ K => o1 K (os_assign rfl) rfl fun _ K => wr_nil ?_
  exact ⟨_, (by omega), i + 1, c50, _, rfl, (.cons (K _ _ rfl) (.cons (K _ _ rfl) (.cons (K _ _ rfl) (.cons (K _ _ rfl) (.cons (K _ _ rfl) .nil))))), M.less (.cons_cons _ (.cons _ (.cons _ (.cons_cons _ (.refl _))))), (by omega), (by rw [setAt_succ]; exact VecN.done (by rwa [show j = a.n by omega] at hvn) hvec (hset i).2), (fun j' hj' => by rcases Nat.lt_succ_iff_lt_or_eq.1 hj' with h | h; exact hno j' h; first | (exfalso; omega) | (rw [h]; exact hnow (by omega)))⟩
 have hb25 := h25
 replace h25 := of_decide_eq_false h25
 refine w_exit ?_
 show W _ _ _ _ _ _ _
 refine w_seq <| w_region <| o1 K (os_load rfl (M.load (k := 1) rfl (part_agg tk_api_Auto rfl))) rfl fun _ K => o1 K (os_move rfl) rfl fun _ K => ?_
 have hrl93 := Row1.rdM (f := AV.bool) (M.row1 (k := 0) rfl) hvec.1 (by rw [hvec.1]; omega)
 obtain ⟨v93, st93, ev93, bacc93, rfl, hbacc93, q93⟩ := acc22_ev (now := now) M.fresh wf (RdR.mem M hA (by simp)) (hN.old hf fun c hc => M.old c hc (by simp)) hrl93 hvec.1
 refine o1 K (os_call rfl ev93) rfl fun _ K => ?_
 replace M := M.quiet q93
 refine o1 K (os_assign rfl) rfl fun _ K => wr_nil ?_
 show W _ _ _ _ _ _ _
 refine w_ret ?_
 refine ⟨.inr rfl, _, (res_one (rs_tmp K rfl)), ?_⟩
 refine ⟨_, rfl, fun h => ?_, M.qt⟩
 obtain ⟨j', h1, z, h2, h3⟩ := h
 rw [hno j' (by omega) z h2] at h3; cases h3
end Go.Proofs.YtiknomepbklibaaDoor
