/-
  The next set, a set's number: the program's.
-/
import Derived.Test.YtiknomepbklibaaGreatDoorZoMtA
import Derived.Test.YtiknomepbklibaaGreatDoorZoPrP
import Derived.Test.YtiknomepbklibaaGreatDoorZoPja
namespace Go.Proofs.YtiknomepbklibaaGreatDoor
open Go Go.RowKit
set_option linter.unusedVariables false
set_option linter.unusedSimpArgs false
set_option linter.unnecessarySimpa false
set_option maxRecDepth 100000
set_option maxHeartbeats 1000000

def poolO (F : Fp) (cp : Nat) (L : List (List Int)) : Ob := ⟨F, fun h => PoolAt h F cp L, fun _ _ e H => H.frame e⟩
/-- The maker, its pool, its meter. -/
structure MkAt (h : Hp) (F : Fp) (xp cp mp : Nat) (L : List (List Int)) (l : Nat) : Prop where
  pool : PoolAt h F cp L
  met : Row1 h mp 0 [.int .i64 ((l : Nat) : Int), .bool false]
  row : Row1 h xp 0 [.ptr cp 0 0, .ptr mp 0 0]
  d1 : ¬ F mp
  d2 : ¬ F xp
  d3 : xp ≠ mp
def mkF (F : Fp) (xp mp : Nat) : Fp := fun c => F c ∨ c = mp ∨ c = xp
theorem MkAt.frame {h h' : Hp} {F : Fp} {xp cp mp : Nat} {L : List (List Int)} {l : Nat} (e : ∀ c, mkF F xp mp c → h' c = h c) (H : MkAt h F xp cp mp L l) : MkAt h' F xp cp mp L l :=
 ⟨H.pool.frame fun c hc => e c (.inl hc), H.met.frame (e mp (.inr (.inl rfl))), H.row.frame (e xp (.inr (.inr rfl))), H.d1, H.d2, H.d3⟩
def mkO (F : Fp) (xp cp mp : Nat) (L : List (List Int)) (l : Nat) : Ob := ⟨mkF F xp mp, fun h => MkAt h F xp cp mp L l, fun _ _ e H => H.frame e⟩
theorem MemO.startMk {st : St} (hf : Fresh st) {F : Fp} {xp cp mp : Nat} {L : List (List Int)} {l : Nat} (H : MkAt st.h.get F xp cp mp L l) (hi : ∀ c, mkF F xp mp c → c < st.n) : MemO st (mkF F xp mp) st [(xp, 0, [.ptr cp 0 0, .ptr mp 0 0])] [poolO F cp L, mtO mp l false] := by
 refine ⟨hf, Nat.le_refl _, fun c m x h => ?_, by simp, fun c m x h => ?_, fun o h => ?_, fun o h c hc => ?_, ?_, fun o h c m x hm hc => ?_, fun _ _ _ => rfl⟩
 ·simp at h; obtain ⟨rfl, rfl, rfl⟩ := h; exact H.row
 ·simp at h; obtain ⟨rfl, rfl, rfl⟩ := h; exact .inr (.inr (.inr rfl))
 ·simp at h; rcases h with rfl | rfl
  ·exact H.pool
  ·exact H.met
 ·simp at h; rcases h with rfl | rfl
  ·exact ⟨hi c (.inl hc), .inr (.inl hc)⟩
  ·exact ⟨hi c (.inr (.inl hc)), .inr (.inr (.inl hc))⟩
 ·refine List.pairwise_cons.2 ⟨fun o h c h1 h2 => ?_, List.pairwise_singleton _ _⟩
  rw [List.mem_singleton.1 h] at h2
  exact H.d1 ((show c = mp from h2) ▸ h1)
 ·simp at hm; obtain ⟨rfl, rfl, rfl⟩ := hm
  simp at h; rcases h with rfl | rfl
  ·exact H.d2 hc
  ·exact H.d3 hc
theorem MemO.doneMk {st st' : St} {F F' : Fp} {xp cp mp : Nat} {L : List (List Int)} {l : Nat} (B : MemO st (mkF F xp mp) st' [(xp, 0, [.ptr cp 0 0, .ptr mp 0 0])] [poolO F' cp L, mtO mp l false]) : ∃ F', MkAt st'.h.get F' xp cp mp L l ∧ MoreF st st' (mkF F xp mp) (mkF F' xp mp) ∧ ChgF (mkF F xp mp) st st' := by
 have hp := (List.pairwise_cons.1 B.dj).1 (mtO mp l false) (by simp)
 refine ⟨F', ⟨B.at_ (k := 0) rfl, B.at_ (k := 1) rfl, B.row _ _ _ (List.mem_singleton.2 rfl), fun h => hp mp h rfl, B.djM (poolO F' cp L) (by simp) xp 0 _ (List.mem_singleton.2 rfl), fun e => B.djM (mtO mp l false) (by simp) xp 0 _ (List.mem_singleton.2 rfl) e⟩, fun c hc => ?_, B.chgF⟩
 rcases hc with hc | hc | hc
 ·exact ⟨(B.lo_ (k := 0) rfl c hc).symm, B.hi_ (k := 0) rfl c hc⟩
 ·exact ⟨(B.lo_ (k := 1) rfl c hc).symm, B.hi_ (k := 1) rfl c hc⟩
 ·subst hc
  exact ⟨.inl (.inr (.inr rfl)), (B.row c 0 _ (List.mem_singleton.2 rfl)).lt B.fresh⟩
theorem mSpend1_ev {st : St} (hf : Fresh st) {mp l : Nat} (hr : Row1 st.h.get mp 0 [.int .i64 ((l : Nat) : Int), .bool false]) (hl : l ≤ 9223372036854775807) (n : Nat) (hn : n ≤ l) : ∃ v st', Ev Tryz.prog envP 62 [.ptr mp 0 0, .int .i64 ((n : Nat) : Int)] st v st' ∧ v = .bool true ∧ (mtO mp (l - n) false).H st'.h.get ∧ ChgF (fun c => c = mp) st st' := by
 obtain ⟨v, st', h1, h2, h3, h4⟩ := mSpend_ev hf hr hl n (by omega)
 exact ⟨v, st', h1, by rw [h2, mOk_yes hn], by rw [mOut_yes hn] at h3; exact h3, h4⟩
theorem pNext_ev {st : St} (hf : Fresh st) {a : Au} (wf : WFA a) {kn : AV} {ls : List (List AV)} (hN : LsR st.h.get a.nx kn ls) {q : List Int} {kq : AV} (hq : RdR st.h.get [] 1 (zC q) kq) (hqs : ∀ z ∈ q, 0 ≤ z ∧ z < ((a.n : Nat) : Int)) (hql : q.length ≤ 400) {c k : Nat} (hk : k < a.tr) (hc : c < 2 ^ (a.tr - 1)) : ∃ v st', Ev Tryz.prog envP 41 [kn, kq, .int .i64 (((c : Nat) : Int)), .int .i64 (((k : Nat) : Int))] st v st' ∧ ∃ kr A, v = kr ∧ ZAcc st.n A kr (stepS a k q c) ∧ (∀ c' m l, (c', m, l) ∈ A → Row1 st'.h.get c' m l) ∧ Qt st st' := by
 have htr := wf.tr; have hlen := wf.len; have hc62 : c ≤ 64 := by have := pow_le64 (T := a.tr - 1) (by omega); omega
 have hu0 := put_lt hk hc (u := 0) (by decide); have hu1 := put_lt hk hc (u := 1) (by decide); have hp6 := pow_le64 htr
 have hnc := hN.r.cell; have hqc := hq.cell; have hlo := low_lt k c; have hpk := tk_lt wf hk; have hcm : c % 2 ^ k ≤ c := Nat.mod_le _ _
 have hh0 : c / 2 ^ k * 2 ^ (k + 1) ≤ putL k c 0 := by unfold putL; omega
 have hh1 : c / 2 ^ k * 2 ^ (k + 1) ≤ 9223372036854775807 := by omega
 refine ev_fn rfl Tryz.func41 rfl Tryz.ntmps41 rfl (by decide) (by simp) fun T hT => ?_
 have K : KnT [(0, _), (1, _), (2, _), (3, _)] T := (.cons (hT 0) (.cons (hT 1) (.cons (hT 2) (.cons (hT 3) .nil))))
 have M := Mem.start hf
 refine w_seq <| w_region <| o1 K (os_assign rfl) rfl fun _ K => wr_nil ?_
 show W _ _ _ _ _ _ _
 refine w_seq <| w_region <| o1 K (os_move rfl) rfl fun _ K => o1 K (os_move rfl) rfl fun _ K => o1 K (os_shl1 (n := k) rfl rfl (by omega)) rfl fun _ K => o1 K (os_sub rfl rfl (by omega) (by omega)) rfl fun _ K => o1 K (os_lowN (k := k) (c := c) rfl rfl (by omega) (by omega)) rfl fun _ K => o1 K (os_assign rfl) rfl fun _ K => wr_nil ?_
 show W _ _ _ _ _ _ _
 refine w_seq <| w_region <| o1 K (os_move rfl) rfl fun _ K => o1 K (os_move rfl) rfl fun _ K => o1 K (os_move rfl) rfl fun _ K => o1 K (os_sub rfl rfl (by omega) (by omega)) rfl fun _ K => o1 K (os_hiN (k := k) (c := c) rfl rfl (by omega)) rfl fun _ K => o1 K (os_orE (put_or0 k c) rfl rfl (by omega) hh1) rfl fun _ K => o1 K (os_assign rfl) rfl fun _ K => ?_
 refine wr_nil ?_
 show W _ _ _ _ _ _ _
 refine w_seq <| w_region <| o1 K (os_assign rfl) rfl fun _ K => wr_nil ?_
 show W _ _ _ _ _ _ _
 refine w_seq <| w_seq <| w_region <| o1 K (os_move rfl) rfl fun _ K => o1 K (os_lenL un_S_int rfl rfl (hq.len.trans (congrArg some (zC_len _)))) rfl fun _ K => o1 K (os_move rfl) rfl fun _ K => wr_nil ?_
 show W _ _ _ _ _ _ _
 refine w_block ?_
 refine w_loop (fun mm1 T st9 => ∃ (i : Nat) (ko : AV) (A : Rows1), mm1 = q.length - i ∧ KnT [(0, kn), (3, .int .i64 (((k : Nat) : Int))), (8, .nils), (10, .int .i64 ((((putL k c 0) : Nat) : Int))), (11, ko), (25, kq), (26, .int .i64 (((q.length : Nat) : Int))), (27, .int .i64 (((i : Nat) : Int)))] T ∧ Mem st.h.get st.n [] st9 (A ++ []) ∧ i ≤ q.length ∧ Acc st.n 1 A ko (zC (nextP a k c (q.take i)))) (fun mm1 T st9 hI => ?_) _ _ _ ⟨0, .nils, [], rfl, (.cons (K _ _ rfl) (.cons (K _ _ rfl) (.cons (K _ _ rfl) (.cons (K _ _ rfl) (.cons (K _ _ rfl) (.cons (K _ _ rfl) (.cons (K _ _ rfl) (.cons (K _ _ rfl) .nil)))))))), M.less (.refl _), (Nat.zero_le _), (by rw [List.take_zero]; exact .none)⟩
 obtain ⟨i, ko, A, rfl, K, M, hiq, hA⟩ := hI
 refine w_seq <| w_region <| o1 K (os_lss rfl rfl) rfl fun _ K => wr_nil ?_
 show W _ _ _ _ _ _ _
 refine w_seq ?_
 refine w_cond (K.opd rfl) (fun h28 => ?_) (fun h28 => ?_)
 ·have hb28 := h28
  replace h28 := of_decide_eq_true h28
  refine w_skip ?_
  show W _ _ _ _ _ _ _
  refine w_seq <| w_block <| w_seq <| w_region ?_
  obtain ⟨y29, hi29⟩ : ∃ x, q[i]? = some x := ⟨_, List.getElem?_eq_getElem (by omega)⟩
  have hb29 := hqs y29 (List.mem_of_getElem? hi29)
  obtain ⟨x29, m29, f29, q29, _, la29, lo29, lp29⟩ := (RdR.mem M hq (by simp)).load (i := i) (cs := _) (zC_get hi29)
  refine o1 K (os_indexAddr (j := i) el_S_int (congrArg some q29) rfl (by rw [zC_len]; omega)) rfl fun _ K => o1 K (os_load rfl (lo29 _ 0 _ tk_int rfl)) rfl fun _ K => o1 K (os_assign rfl) rfl fun _ K => wr_nil ?_
  show W _ _ _ _ _ _ _
  refine w_drawI (l := [(0, 0), (1, 0), (2, 0), (3, 0), (4, 0), (5, 0), (6, 0), (7, 0), (8, 0), (9, 0), (10, 0), (11, 0), (12, 0), (13, 0), (14, 0), (15, 0), (16, 0), (17, 0), (18, 0), (19, 0), (20, 0)]) (by kernel_rfl) ?_
  refine d1 rfl K (os_move rfl) rfl rfl fun _ K => d1 rfl K (os_move rfl) rfl rfl fun _ K => d1 rfl K (os_move rfl) rfl rfl fun _ K => ?_
  obtain ⟨s34, hi34⟩ : ∃ x, a.nx[(y29).toNat]? = some x := ⟨_, List.getElem?_eq_getElem (by omega)⟩
  obtain ⟨_, hc34, w34, rfl, hr34, hz34⟩ := hN.at_ _ _ hi34
  have hw34 := wf.row s34 (List.mem_of_getElem? hi34)
  have hl34 : s34.length = 2 ^ a.tr := hw34.1
  obtain ⟨x34, m34, f34, q34, _, la34, lo34, lp34⟩ := (RdR.mem M hN.r (by simp)).load (i := (y29).toNat) (cs := _) hc34
  refine d1 rfl K (os_indexAddr (j := (y29).toNat) el_S_S_int (congrArg some q34) (congrArg (fun z => some (AV.int .i64 z)) (by omega : _ = (((y29).toNat : Nat) : Int))) (by rw [hN.ln]; omega)) rfl rfl fun _ K => d1 rfl K (os_load rfl (lo34 _ 0 _ tk_S_int rfl)) rfl rfl fun _ K => d1 rfl K (os_move rfl) rfl rfl fun _ K => ?_
  obtain ⟨y37, hi37⟩ : ∃ x, s34[(putL k c 0)]? = some x := ⟨_, List.getElem?_eq_getElem (by omega)⟩
  have hb37 := hw34.2 y37 (List.mem_of_getElem? hi37)
  obtain ⟨x37, m37, f37, q37, _, la37, lo37, lp37⟩ := (RdR.mem M hr34 (by simp)).load (i := (putL k c 0)) (cs := _) (zC_get hi37)
  refine d1 rfl K (os_indexAddr (j := (putL k c 0)) el_S_int (congrArg some q37) rfl (by rw [zC_len]; omega)) rfl rfl fun _ K => d1 rfl K (os_load rfl (lo37 _ 0 _ tk_int rfl)) rfl rfl fun _ K => d1 rfl K (os_move rfl) rfl rfl fun _ K => d1 rfl K (os_move rfl) rfl rfl fun _ K => ?_
  obtain ⟨_, hc41, w41, rfl, hr41, hz41⟩ := hN.at_ _ _ hi34
  obtain ⟨x41, m41, f41, q41, _, la41, lo41, lp41⟩ := (RdR.mem M hN.r (by simp)).load (i := (y29).toNat) (cs := _) hc41
  refine d1 rfl K (os_indexAddr (j := (y29).toNat) el_S_S_int (congrArg some q41) (congrArg (fun z => some (AV.int .i64 z)) (by omega : _ = (((y29).toNat : Nat) : Int))) (by rw [hN.ln]; omega)) rfl rfl fun _ K => d1 rfl K (os_load rfl (lo41 _ 0 _ tk_S_int rfl)) rfl rfl fun _ K => d1 rfl K (os_move rfl) rfl rfl fun _ K => d1 rfl K (os_move rfl) rfl rfl fun _ K => d1 rfl K (os_shl1 (n := k) rfl rfl (by omega)) rfl rfl fun _ K => d1 rfl K (os_orE (put_or1 k c) rfl rfl (by omega) (by omega)) rfl rfl fun _ K => ?_
  obtain ⟨y47, hi47⟩ : ∃ x, s34[(putL k c 1)]? = some x := ⟨_, List.getElem?_eq_getElem (by omega)⟩
  have hb47 := hw34.2 y47 (List.mem_of_getElem? hi47)
  obtain ⟨x47, m47, f47, q47, _, la47, lo47, lp47⟩ := (RdR.mem M hr41 (by simp)).load (i := (putL k c 1)) (cs := _) (zC_get hi47)
  refine d1 rfl K (os_indexAddr (j := (putL k c 1)) el_S_int (congrArg some q47) rfl (by rw [zC_len]; omega)) rfl rfl fun _ K => d1 rfl K (os_load rfl (lo47 _ 0 _ tk_int rfl)) rfl rfl fun _ K => ?_
  refine wd_bs rfl K M sl_S_int ze_int rfl rfl rfl rfl rfl fun c49 _ _ K M => ?_
  refine wd_accS (L := [(c49, 0, [.int .i64 y37, .int .i64 y47])]) (A := A) (B := []) (ls2 := [[.int .i64 y37], [.int .i64 y47]]) (Y := []) rfl K M hA sl_S_int rfl rfl (RdR.own (ls := [[.int .i64 y37], [.int .i64 y47]]) (Mem.row1 (k := 0) M rfl) (by simp) (by simp) (by simp)) (by simp) (by simp only [zC_len, nextP_len, List.length_take, List.length_cons, List.length_nil]; omega) rfl fun ks50 A50 _ _ K hA50 M => ?_
  refine d1 rfl K (os_assign rfl) rfl rfl fun _ K => wd_nil ?_
  show W _ _ _ _ _ _ _
  refine w_region <| o1 K (os_add rfl rfl (by omega) (by omega)) rfl fun _ K => o1 K (os_move rfl) rfl fun _ K => wr_nil ?_
  exact ⟨_, (by omega), i + 1, ks50, A50, rfl, (.cons (K _ _ rfl) (.cons (K _ _ rfl) (.cons (K _ _ rfl) (.cons (K _ _ rfl) (.cons (K _ _ rfl) (.cons (K _ _ rfl) (.cons (K _ _ rfl) (.cons (K _ _ rfl) .nil)))))))), M.less (.cons _ (.refl _)), (by omega), (by rw [nextP_take hi29, go_row hi34 hi37, go_row hi34 hi47, zC_app, Int.toNat_of_nonneg hb37.1, Int.toNat_of_nonneg hb47.1]; exact hA50)⟩
 have hb28 := h28
 replace h28 := of_decide_eq_false h28
 refine w_exit ?_
 show W _ _ _ _ _ _ _
 refine w_seq <| w_region <| o1 K (os_move rfl) rfl fun _ K => ?_
 rw [List.take_of_length_le (by omega)] at hA
 have hln := nextP_len a k c q
 obtain ⟨v53, st53, A12, ev53, rfl, M7, hA12⟩ := sortZ_acc (L := []) (A := A) (B := []) M hA (by omega)
 refine o1 K (os_call rfl ev53) rfl fun _ K => ?_
 replace M := M7
 refine wr_nil ?_
 show W _ _ _ _ _ _ _
 refine w_seq <| w_region <| o1 K (os_move rfl) rfl fun _ K => ?_
 obtain ⟨v55, st55, A14, ev55, hA14, M9⟩ := compZ_acc (L := []) (A := A12) (B := []) M hA12 (by rw [orderZ_len]; omega)
 rw [setZ_eq] at hA14
 refine o1 K (os_call rfl ev55) rfl fun _ K => ?_
 replace M := M9
 refine o1 K (os_assign rfl) rfl fun _ K => wr_nil ?_
 show W _ _ _ _ _ _ _
 refine w_ret ?_
 refine ⟨.inr rfl, _, (res_one (rs_tmp K rfl)), ?_⟩
 refine ⟨_, A14, rfl, hA14, fun c' m l h => M.row c' m l (by simp [h]), M.qt⟩

theorem pId_ev {st : St} (hf : Fresh st) {F : Fp} {xp cp mp : Nat} {L : List (List Int)} {l : Nat} (H : MkAt st.h.get F xp cp mp L l) (hi : ∀ c, mkF F xp mp c → c < st.n) (hL : L.length ≤ 400) (hl1 : 1 ≤ l) (hl : l ≤ 9223372036854775807) {q : List Int} {kq : AV} (hq : RdR st.h.get [] 1 (zC q) kq) (hX : ∀ c m o n y, kq = .sl c m o n y → ¬ mkF F xp mp c) (hz : In64 q) (hql : q.length ≤ 100000) (hs : RiseZ q) : ∃ v st', Ev Tryz.prog envP 37 [.ptr xp 0 0, kq] st v st' ∧ v = .tup [.int .i64 ((ofN L q : Nat) : Int), .bool (decide (((ofL L q).length : Int) ≤ 400))] ∧ ∃ F', MkAt st'.h.get F' xp cp mp (ofL L q) (l - ((ofL L q).length - L.length)) ∧ MoreF st st' (mkF F xp mp) (mkF F' xp mp) ∧ ChgF (mkF F xp mp) st st' := by
 have B := MemO.startMk hf H hi
 have hof := of_sorted (L := L) hs
 have hqc := hq.cell
 refine ev_fn rfl Tryz.func37 rfl Tryz.ntmps37 rfl (by decide) (by simp) fun T hT => ?_
 have K : KnT [(0, _), (1, _)] T := (.cons (hT 0) (.cons (hT 1) .nil))
 have M := B.mem
 refine w_seq <| w_region <| o1 K (os_assign rfl) rfl fun _ K => o1 K (os_assign rfl) rfl fun _ K => wr_nil ?_
 show W _ _ _ _ _ _ _
 refine w_seq <| w_region <| o1 K (os_move rfl) rfl fun _ K => o1 K (os_nil rfl rfl) rfl fun _ K => o1 K (os_fieldAddr fo_proj_maker_0 rfl) rfl fun _ K => o1 K (os_load rfl (M.load (k := 0) rfl (part_one tk_P_pool_Pool rfl))) rfl fun _ K => ?_
 replace B := B.step M
 obtain ⟨v12, st12, ev12, rfl, q12⟩ := lenP_ev (L := L) B.fresh (B.at_ (k := 0) rfl)
 refine o1 K (os_call rfl ev12) rfl fun _ K => ?_
 replace B := B.quiet q12
 have M := B.mem
 refine o1 K (os_assign rfl) rfl fun _ K => wr_nil ?_
 show W _ _ _ _ _ _ _
 refine w_seq <| w_region <| o1 K (os_move rfl) rfl fun _ K => o1 K (os_nil rfl rfl) rfl fun _ K => o1 K (os_fieldAddr fo_proj_maker_0 rfl) rfl fun _ K => o1 K (os_load rfl (M.load (k := 0) rfl (part_one tk_P_pool_Pool rfl))) rfl fun _ K => o1 K (os_move rfl) rfl fun _ K => ?_
 replace B := B.step M
 obtain ⟨v18, st18, ev18, rfl, hP2, Q2⟩ := ofP_ev B.fresh (B.at_ (k := 0) rfl) (B.hi_ (k := 0) rfl) (by omega) (B.rd hf hq hX) hz hql
 refine o1 K (os_call rfl ev18) rfl fun _ K => ?_
 generalize hF2 : (fun c => F c ∨ _) = F2 at hP2
 replace B := B.call (k := 0) (o' := poolO F2 cp (ofL L q)) rfl Q2 hP2 (fun c hc => by rw [show (poolO F2 cp (ofL L q)).F c = F2 c from rfl, ← hF2] at hc; rcases hc with hc | hc; exact ⟨.inl hc, Nat.lt_of_lt_of_le (B.hi_ (k := 0) rfl c hc) Q2.le⟩; exact ⟨.inr hc.1, hc.2⟩)
 have M := B.mem
 refine o1 K (os_assign rfl) rfl fun _ K => wr_nil ?_
 show W _ _ _ _ _ _ _
 refine w_seq <| w_seq <| w_region <| o1 K (os_move rfl) rfl fun _ K => o1 K (os_move rfl) rfl fun _ K => o1 K (os_lss rfl rfl) rfl fun _ K => wr_nil ?_
 show W _ _ _ _ _ _ _
 refine w_cond (K.opd rfl) (fun h21 => ?_) (fun h21 => ?_)
 ·have hb21 := h21
  replace h21 := of_decide_eq_true h21
  refine w_seq <| w_region <| o1 K (os_move rfl) rfl fun _ K => o1 K (os_assign rfl) rfl fun _ K => o1 K (os_assign rfl) rfl fun _ K => wr_nil ?_
  show W _ _ _ _ _ _ _
  refine w_ret ?_
  refine ⟨.inr rfl, _, (res_two (rs_tmp K rfl) (rs_tmp K rfl)), ?_⟩
  replace B := B.step M
  rcases hof with ⟨a1, a2, a3⟩ | ⟨a1, a2, a3⟩
  ·have e8 : (ofL L q).length = L.length := by rw [a2]
   refine ⟨by rw [decide_eq_true (show ((ofL L q).length : Int) ≤ 400 by omega)], ?_⟩
   rw [show l - ((ofL L q).length - L.length) = l by omega]
   exact B.doneMk
  ·exfalso; omega
 have hb21 := h21
 replace h21 := of_decide_eq_false h21
 refine w_skip ?_
 show W _ _ _ _ _ _ _
 refine w_seq <| w_region <| o1 K (os_move rfl) rfl fun _ K => o1 K (os_move rfl) rfl fun _ K => o1 K (os_nil rfl rfl) rfl fun _ K => o1 K (os_fieldAddr fo_proj_maker_1 rfl) rfl fun _ K => o1 K (os_load rfl (M.load (k := 0) rfl (part_one tk_P_meter_Meter rfl))) rfl fun _ K => ?_
 replace B := B.step M
 obtain ⟨v28, st28, ev28, rfl, hm3, Q3⟩ := mSpend1_ev B.fresh (B.at_ (k := 1) rfl) hl 1 (by omega)
 refine o1 K (os_call rfl ev28) rfl fun _ K => ?_
 replace B := B.call (k := 1) (o' := mtO mp (l - 1) false) rfl Q3 hm3 (fun c hc => ⟨.inl hc, Nat.lt_of_lt_of_le (B.hi_ (k := 1) rfl c hc) Q3.le⟩)
 have M := B.mem
 refine o1 K (os_move rfl) rfl fun _ K => og K rfl rfl (os_move rfl) rfl fun _ K => og K rfl rfl (os_nil rfl rfl) rfl fun _ K => og K rfl rfl (os_fieldAddr fo_proj_maker_0 rfl) rfl fun _ K => og K rfl rfl (os_load rfl (M.load (k := 0) rfl (part_one tk_P_pool_Pool rfl))) rfl fun _ K => ?_
 replace B := B.step M
 obtain ⟨v34, st34, ev34, rfl, q34⟩ := lenP_ev (L := (ofL L q)) B.fresh (B.at_ (k := 0) rfl)
 refine og K rfl rfl (os_call rfl ev34) rfl fun _ K => ?_
 replace B := B.quiet q34
 have M := B.mem
 refine og K rfl rfl (os_leq rfl rfl) rfl fun _ K => o1 K (os_pick rfl rfl rfl) rfl fun _ K => o1 K (os_assign rfl) rfl fun _ K => o1 K (os_assign rfl) rfl fun _ K => wr_nil ?_
 show W _ _ _ _ _ _ _
 refine w_ret ?_
 refine ⟨.inr rfl, _, (res_two (rs_tmp K rfl) (rs_tmp K rfl)), ?_⟩
 replace B := B.step M
 rcases hof with ⟨a1, a2, a3⟩ | ⟨a1, a2, a3⟩
 ·exfalso; omega
 ·have e8 : (ofL L q).length = L.length + 1 := by rw [a2, List.length_append]; rfl
  refine ⟨rfl, ?_⟩
  rw [show l - ((ofL L q).length - L.length) = l - 1 by omega]
  exact B.doneMk
end Go.Proofs.YtiknomepbklibaaGreatDoor
