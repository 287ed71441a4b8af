/-
  The reference's classes and least automaton.
-/
import Derived.Test.YtiknomepbklibaaGreatDoorZoR24P
import Derived.Test.YtiknomepbklibaaGreatDoorZoR19
import Derived.Test.YtiknomepbklibaaGreatDoorZoPrJ
namespace Go.Proofs.YtiknomepbklibaaGreatDoor
open Go Go.RowKit
set_option linter.unusedVariables false
set_option linter.unusedSimpArgs false
set_option linter.unnecessarySimpa false
set_option maxRecDepth 100000
set_option maxHeartbeats 4000000

theorem MemO.newRow {st0 st : St} {M A : Rows2} {Os : List Ob} {z : Nat} {ks : AV} {ls : List (List AV)} (B : MemO st0 noX st M Os) (hA : Acc 0 z A ks ls) (hs : ∀ c m l, (c, m, l) ∈ A → (c, m, l) ∈ M) : NewR st0 st z ks ls := by
 refine ⟨A, ?_, fun c m l hm => B.row c m l (hs c m l hm)⟩
 cases hA with
 | none => exact .none
 | own h1 h2 h3 => exact .own ((B.lo _ _ _ (hs _ _ _ (List.mem_cons_self ..))).resolve_right id) h2 h3

theorem sgn64 {a : Au} {cl : List Int} (h : In64 cl) (s : Nat) : In64 (sgn a cl s) := by
 have key : ∀ s, -9223372036854775808 ≤ cv cl s ∧ cv cl s ≤ 9223372036854775807 := fun s => by
  unfold cv
  cases hs : cl[s]? with
  | none => exact ⟨by decide, by decide⟩
  | some y => exact h y (List.mem_of_getElem? hs)
 intro z hz
 unfold sgn sgnT at hz
 rcases List.mem_cons.1 hz with rfl | hz
 ·exact key s
 ·obtain ⟨c, _, rfl⟩ := List.mem_map.1 hz
  exact key _

theorem sign_ev {st : St} (hf : Fresh st) {a : Au} (wf : WFA a) {ka kn : AV} {ls : List (List AV)} (hA : RdR st.h.get [] 1 (bC a.acc) ka) (hN : LsR st.h.get a.nx kn ls) {cl : List Int} {kc : AV} (hc : RdR st.h.get [] 1 (zC cl) kc) (hcl : cl.length = a.n) {s : Nat} (hs : s < a.n) : ∃ v st', Ev Tryz.prog envP 82 [.agg [.int .i64 (((a.tr : Nat) : Int)), ka, kn], kc, .int .i64 (((s : Nat) : Int))] st v st' ∧ ∃ kr, v = kr ∧ NewR st st' 1 kr (zC (sgn a cl s)) ∧ Qt st st' := by
 have hac := hA.cell; have hnc := hN.r.cell; have hmo := wf.most; have hps := wf.pos; have hln := wf.len; have hen : a.n = a.acc.length := rfl; have htr := wf.tr; have hp6 := pow_le64 htr; have hp0 : 0 < 2 ^ a.tr := Nat.two_pow_pos _
 have hcc := hc.cell
 refine ev_fn rfl Tryz.func82 rfl Tryz.ntmps82 rfl (by decide) (by simp) fun T hT => ?_
 have K : KnT [(0, _), (1, _), (2, _)] T := (.cons (hT 0) (.cons (hT 1) (.cons (hT 2) .nil)))
 have M := Mem.start hf
 refine w_seq <| w_region ?_
 refine wr_box K M rfl (cl_cons rfl (cl_cons hA.cell (cl_cons hN.r.cell cl_nil))) (by decide) fun c3 _ _ K M => ?_
 refine o1 K (os_assign rfl) rfl fun _ K => wr_nil ?_
 show W _ _ _ _ _ _ _
 refine w_seq <| w_region <| o1 K (os_move rfl) rfl fun _ K => o1 K (os_move rfl) rfl fun _ K => ?_
 obtain ⟨y11, hi11⟩ : ∃ x, cl[s]? = some x := ⟨_, List.getElem?_eq_getElem (by omega)⟩
 obtain ⟨x11, m11, f11, q11, _, la11, lo11, lp11⟩ := (RdR.mem M hc (by simp)).load (i := s) (cs := _) (zC_get hi11)
 refine o1 K (os_indexAddr (j := s) el_S_int (congrArg some q11) rfl (by rw [zC_len]; omega)) rfl fun _ K => o1 K (os_load rfl (lo11 _ 0 _ tk_int rfl)) rfl fun _ K => ?_
 refine wr_bs K M sl_S_int ze_int rfl rfl rfl rfl rfl fun c13 _ _ K M => ?_
 refine o1 K (os_assign rfl) rfl fun _ K => wr_nil ?_
 show W _ _ _ _ _ _ _
 refine w_seq <| w_seq ?_
 replace M := Mem.cast (M' := ((c3, 0, [.int .i64 (((a.tr : Nat) : Int)), ka, kn]) :: ([(c13, 0, [.int .i64 y11])] ++ []))) (Mem.perm M (List.perm_append_comm (α := Nat × Nat × List AV) (l₁ := [(c13, 0, [.int .i64 y11])]) (l₂ := [(c3, 0, [.int .i64 (((a.tr : Nat) : Int)), ka, kn])]))) (by first | (simp only [List.append_assoc, List.cons_append, List.nil_append, List.append_nil, List.set_cons_zero, List.set_cons_succ]; done) | (simp only [List.append_assoc, List.cons_append, List.nil_append, List.append_nil, List.set_cons_zero, List.set_cons_succ]; rfl))
 have hAS0 : Acc st.n 1 [(c13, 0, [.int .i64 y11])] (.sl c13 0 0 1 1) [[.int .i64 y11]] := Acc.own (n0 := st.n) (z := 1) (c := c13) (m := 0) (ls := [[.int .i64 y11]]) ((M.own c13 0 [.int .i64 y11] (by simp)).resolve_right (by simp)) (by simp) (by simp)
 refine w_region <| o1 K (os_assign rfl) rfl fun _ K => wr_nil ?_
 show W _ _ _ _ _ _ _
 refine w_block ?_
 refine w_loop (fun mm1 T st9 => ∃ (c : Nat) (ko : AV) (A : Rows1), mm1 = 2 ^ a.tr - c ∧ KnT [(1, kc), (2, .int .i64 (((s : Nat) : Int))), (3, .ptr c3 0 0), (6, .nils), (7, ko), (8, .int .i64 (((c : Nat) : Int)))] T ∧ Mem st.h.get st.n [] st9 ((c3, 0, [.int .i64 (((a.tr : Nat) : Int)), ka, kn]) :: (A ++ [])) ∧ c ≤ 2 ^ a.tr ∧ Acc st.n 1 A ko (zC (sgnT a cl s c))) (fun mm1 T st9 hI => ?_) _ _ _ ⟨0, (.sl c13 0 0 1 1), [(c13, 0, [.int .i64 y11])], rfl, (.cons (K _ _ rfl) (.cons (K _ _ rfl) (.cons (K _ _ rfl) (.cons (K _ _ rfl) (.cons (K _ _ rfl) (.cons (K _ _ rfl) .nil)))))), M.less (.refl _), (Nat.zero_le _), (by rw [show sgnT a cl s 0 = [y11] by unfold sgnT; rw [cv_at hi11]; rfl]; exact hAS0)⟩
 obtain ⟨c, ko, A, rfl, K, M, hck, hA2⟩ := hI
 refine w_seq <| w_seq <| w_region <| o1 K (os_move rfl) rfl fun _ K => o1 K (os_fieldAddr fo_api_Auto_2 rfl) rfl fun _ K => o1 K (os_load rfl (M.load (k := 0) rfl (part_one tk_S_S_int rfl))) rfl fun _ K => o1 K (os_move rfl) rfl fun _ K => ?_
 obtain ⟨s18, hi18⟩ : ∃ x, a.nx[s]? = some x := ⟨_, List.getElem?_eq_getElem (by omega)⟩
 obtain ⟨_, hc18, w18, rfl, hr18, hz18⟩ := hN.at_ _ _ hi18
 have hw18 := wf.row s18 (List.mem_of_getElem? hi18)
 have hl18 : s18.length = 2 ^ a.tr := hw18.1
 obtain ⟨x18, m18, f18, q18, _, la18, lo18, lp18⟩ := (RdR.mem M hN.r (by simp)).load (i := s) (cs := _) hc18
 refine o1 K (os_indexAddr (j := s) el_S_S_int (congrArg some q18) rfl (by rw [hN.ln]; omega)) rfl fun _ K => o1 K (os_load rfl (lo18 _ 0 _ tk_S_int rfl)) rfl fun _ K => o1 K (os_lenL un_S_int rfl rfl (hr18.len.trans (congrArg some (zC_len _)))) rfl fun _ K => o1 K (os_lss rfl rfl) rfl fun _ K => wr_nil ?_
 show W _ _ _ _ _ _ _
 refine w_cond (K.opd rfl) (fun h21 => ?_) (fun h21 => ?_)
 ·have hb21 := h21
  replace h21 := of_decide_eq_true h21
  refine w_skip ?_
  show W _ _ _ _ _ _ _
  refine w_seq <| w_block <| w_region <| o1 K (os_move rfl) rfl fun _ K => o1 K (os_move rfl) rfl fun _ K => o1 K (os_fieldAddr fo_api_Auto_2 rfl) rfl fun _ K => o1 K (os_load rfl (M.load (k := 0) rfl (part_one tk_S_S_int rfl))) rfl fun _ K => o1 K (os_move rfl) rfl fun _ K => ?_
  obtain ⟨_, hc29, w29, rfl, hr29, hz29⟩ := hN.at_ _ _ hi18
  obtain ⟨x29, m29, f29, q29, _, la29, lo29, lp29⟩ := (RdR.mem M hN.r (by simp)).load (i := s) (cs := _) hc29
  refine o1 K (os_indexAddr (j := s) el_S_S_int (congrArg some q29) rfl (by rw [hN.ln]; omega)) rfl fun _ K => o1 K (os_load rfl (lo29 _ 0 _ tk_S_int rfl)) rfl fun _ K => o1 K (os_move rfl) rfl fun _ K => ?_
  obtain ⟨y32, hi32⟩ : ∃ x, s18[c]? = some x := ⟨_, List.getElem?_eq_getElem (by omega)⟩
  have hb32 := hw18.2 y32 (List.mem_of_getElem? hi32)
  obtain ⟨x32, m32, f32, q32, _, la32, lo32, lp32⟩ := (RdR.mem M hr29 (by simp)).load (i := c) (cs := _) (zC_get hi32)
  refine o1 K (os_indexAddr (j := c) el_S_int (congrArg some q32) rfl (by rw [zC_len]; omega)) rfl fun _ K => o1 K (os_load rfl (lo32 _ 0 _ tk_int rfl)) rfl fun _ K => ?_
  obtain ⟨y34, hi34⟩ : ∃ x, cl[(y32).toNat]? = some x := ⟨_, List.getElem?_eq_getElem (by omega)⟩
  obtain ⟨x34, m34, f34, q34, _, la34, lo34, lp34⟩ := (RdR.mem M hc (by simp)).load (i := (y32).toNat) (cs := _) (zC_get hi34)
  refine o1 K (os_indexAddr (j := (y32).toNat) el_S_int (congrArg some q34) (congrArg (fun z => some (AV.int .i64 z)) (by omega : _ = (((y32).toNat : Nat) : Int))) (by rw [zC_len]; omega)) rfl fun _ K => o1 K (os_load rfl (lo34 _ 0 _ tk_int rfl)) rfl fun _ K => ?_
  refine wr_bs K M sl_S_int ze_int rfl rfl rfl rfl rfl fun c36 _ _ K M => ?_
  refine wr_acc1 (k2 := 0) (L := [(c36, 0, [.int .i64 y34]), (c3, 0, [.int .i64 (((a.tr : Nat) : Int)), ka, kn])]) (A := A) (B := []) K M hA2 sl_S_int rfl rfl rfl rfl (by rw [zC_len, sgnT_len]; omega) rfl fun ks37 A37 _ _ K hA37 M => ?_
  refine o1 K (os_assign rfl) rfl fun _ K => wr_nil ?_
  show W _ _ _ _ _ _ _
  refine w_region <| o1 K (os_move rfl) rfl fun _ K => o1 K (os_add rfl rfl (by omega) (by omega)) rfl fun _ K => o1 K (os_assign rfl) rfl fun _ K => wr_nil ?_
  exact ⟨_, (by omega), c + 1, ks37, A37, rfl, (.cons (K _ _ rfl) (.cons (K _ _ rfl) (.cons (K _ _ rfl) (.cons (K _ _ rfl) (.cons (K _ _ rfl) (.cons (K _ _ rfl) .nil)))))), M.less (.cons _ (.refl _)), (by omega), (by rw [sgnT_succ, go_row hi18 hi32, cv_at hi34, zC_app]; exact hA37)⟩
 have hb21 := h21
 replace h21 := of_decide_eq_false h21
 refine w_exit ?_
 show W _ _ _ _ _ _ _
 refine w_seq <| w_region <| o1 K (os_move rfl) rfl fun _ K => o1 K (os_assign rfl) rfl fun _ K => wr_nil ?_
 show W _ _ _ _ _ _ _
 refine w_ret ?_
 refine ⟨.inr rfl, _, (res_one (rs_tmp K rfl)), ?_⟩
 refine ⟨_, rfl, ?_, M.qt⟩
 have hce : c = 2 ^ a.tr := by omega
 subst hce
 have h := Mem.newR (L := [(c3, 0, [.int .i64 (((a.tr : Nat) : Int)), ka, kn])]) (A := A) (B := []) M hA2
 exact h

theorem finer_ev {st : St} (hf : Fresh st) {a : Au} (wf : WFA a) {ka kn : AV} {ls : List (List AV)} (hA : RdR st.h.get [] 1 (bC a.acc) ka) (hN : LsR st.h.get a.nx kn ls) {cl : List Int} {kc : AV} (hc : RdR st.h.get [] 1 (zC cl) kc) (hcl : cl.length = a.n) (hcz : In64 cl) : ∃ v st', Ev Tryz.prog envP 56 [.agg [.int .i64 (((a.tr : Nat) : Int)), ka, kn], kc] st v st' ∧ ∃ kr SG out, v = .tup [kr, .int .i64 ((SG.length : Nat) : Int)] ∧ FinI a cl a.n SG out ∧ NewR st st' 1 kr (zC out) ∧ Qt st st' := by
 have hac := hA.cell; have hnc := hN.r.cell; have hmo := wf.most; have hps := wf.pos; have hln := wf.len; have hen : a.n = a.acc.length := rfl; have htr := wf.tr; have hp6 := pow_le64 htr; have hp0 : 0 < 2 ^ a.tr := Nat.two_pow_pos _
 have hcc := hc.cell
 have B := MemO.start hf
 refine ev_fn rfl Tryz.func56 rfl Tryz.ntmps56 rfl (by decide) (by simp) fun T hT => ?_
 have K : KnT [(0, _), (1, _)] T := (.cons (hT 0) (.cons (hT 1) .nil))
 have M := B.mem
 refine w_seq <| w_region ?_
 refine wr_box K M rfl (cl_cons rfl (cl_cons hA.cell (cl_cons hN.r.cell cl_nil))) (by decide) fun c2 _ _ K M => ?_
 refine o1 K (os_assign rfl) rfl fun _ K => o1 K (os_assign rfl) rfl fun _ K => wr_nil ?_
 show W _ _ _ _ _ _ _
 refine w_seq ?_
 replace B := (B.step M).noRows
 have M := B.mem
 refine w_region <| o1 K (os_assign rfl) rfl fun _ K => wr_nil ?_
 show W _ _ _ _ _ _ _
 refine w_seq <| w_region <| o1 K (os_assign rfl) rfl fun _ K => wr_nil ?_
 show W _ _ _ _ _ _ _
 refine w_seq <| w_seq <| w_region <| o1 K (os_assign rfl) rfl fun _ K => wr_nil ?_
 show W _ _ _ _ _ _ _
 refine w_block ?_
 refine w_loop (fun mm1 T st9 => ∃ (i : Nat) (SG : List (List Int)) (F : Fp) (vs : List AV) (ks : AV) (As : Rows2) (out : List Int) (ko : AV) (Ao : Rows2), mm1 = a.n - i ∧ KnT [(1, kc), (2, .ptr c2 0 0), (4, .nils), (5, .int .i64 0), (6, ks), (7, ko), (8, .int .i64 (((i : Nat) : Int)))] T ∧ MemO st noX st9 ((c2, 0, [.int .i64 (((a.tr : Nat) : Int)), ka, kn]) :: (As ++ (Ao ++ []))) [vsO F vs SG] ∧ FinI a cl i SG out ∧ i ≤ a.n ∧ AccX As ks vs ∧ Acc 0 1 Ao ko (zC out)) (fun mm1 T st9 hI => ?_) _ _ _ ⟨0, [], _, [], .nils, [], [], .nils, [], rfl, (.cons (K _ _ rfl) (.cons (K _ _ rfl) (.cons (K _ _ rfl) (.cons (K _ _ rfl) (.cons (K _ _ rfl) (.cons (K _ _ rfl) (.cons (K _ _ rfl) .nil))))))), (B.step M).less (.refl _), (FinI.start a cl), (Nat.zero_le _), .none, .none⟩
 obtain ⟨i, SG, F, vs, ks, As, out, ko, Ao, rfl, K, B, hFin, hi, hAs, hAo⟩ := hI
 have M := B.mem
 have hsl := hFin.le
 refine w_seq <| w_seq <| w_region <| o1 K (os_move rfl) rfl fun _ K => o1 K (os_fieldAddr fo_api_Auto_1 rfl) rfl fun _ K => o1 K (os_load rfl (M.load (k := 0) rfl (part_one tk_S_bool rfl))) rfl fun _ K => o1 K (os_lenL un_S_bool rfl rfl (hA.len.trans (congrArg some (bC_len _)))) rfl fun _ K => o1 K (os_lss rfl rfl) rfl fun _ K => wr_nil ?_
 show W _ _ _ _ _ _ _
 refine w_cond (K.opd rfl) (fun h15 => ?_) (fun h15 => ?_)
 ·have hb15 := h15
  replace h15 := of_decide_eq_true h15
  refine w_skip ?_
  show W _ _ _ _ _ _ _
  refine w_seq <| w_block <| w_seq <| w_region <| o1 K (os_load rfl (M.load (k := 0) rfl (part_agg tk_api_Auto rfl))) rfl fun _ K => o1 K (os_move rfl) rfl fun _ K => o1 K (os_move rfl) rfl fun _ K => ?_
  obtain ⟨v21, st21, ev21, kx, rfl, nrx, q21⟩ := sign_ev M.fresh wf ((B.step M).rd0 hf hA) (hN.old hf fun c hc => (B.step M).old c hc id) ((B.step M).rd0 hf hc) hcl (s := i) (by omega)
  refine o1 K (os_call rfl ev21) rfl fun _ K => ?_
  obtain ⟨Ax, hAx, M⟩ := M.callAcc q21 nrx
  replace hAx := hAx.z0
  replace M := Mem.cast (M' := ((c2, 0, [.int .i64 (((a.tr : Nat) : Int)), ka, kn]) :: (As ++ (Ao ++ (Ax ++ []))))) M (by first | (simp only [List.append_assoc, List.cons_append, List.nil_append, List.append_nil, List.set_cons_zero, List.set_cons_succ]; done) | (simp only [List.append_assoc, List.cons_append, List.nil_append, List.append_nil, List.set_cons_zero, List.set_cons_succ]; rfl))
  refine o1 K (os_assign rfl) rfl fun _ K => wr_nil ?_
  show W _ _ _ _ _ _ _
  refine w_seq <| w_region <| o1 K (os_assign rfl) rfl fun _ K => wr_nil ?_
  show W _ _ _ _ _ _ _
  refine w_cut (J := fun T st9 => ∃ (k : Nat), KnT [(1, kc), (2, .ptr c2 0 0), (4, .nils), (5, .int .i64 0), (6, ks), (7, ko), (8, .int .i64 (((i : Nat) : Int))), (9, v21), (10, .int .i64 (((k : Nat) : Int))), (15, .bool (decide (((i : Nat) : Int) < ((a.acc.length : Nat) : Int))))] T ∧ MemO st noX st9 ((c2, 0, [.int .i64 (((a.tr : Nat) : Int)), ka, kn]) :: (As ++ (Ao ++ (Ax ++ [])))) [vsO F vs SG] ∧ k ≤ SG.length ∧ (∀ (j : Nat) (x : List Int), j < k → SG[j]? = some x → x ≠ sgn a cl i) ∧ (k < SG.length → SG[k]? = some (sgn a cl i))) ?_ (fun T st9 hJ => ?_)
  ·refine w_block ?_
   refine w_loop (fun mm2 T st9 => ∃ (k : Nat), mm2 = SG.length - k ∧ KnT [(1, kc), (2, .ptr c2 0 0), (4, .nils), (5, .int .i64 0), (6, ks), (7, ko), (8, .int .i64 (((i : Nat) : Int))), (9, v21), (10, .int .i64 (((k : Nat) : Int))), (15, .bool (decide (((i : Nat) : Int) < ((a.acc.length : Nat) : Int))))] T ∧ MemO st noX st9 ((c2, 0, [.int .i64 (((a.tr : Nat) : Int)), ka, kn]) :: (As ++ (Ao ++ (Ax ++ [])))) [vsO F vs SG] ∧ k ≤ SG.length ∧ (∀ (j : Nat) (x : List Int), j < k → SG[j]? = some x → x ≠ sgn a cl i)) (fun mm2 T st9 hI => ?_) _ _ _ ⟨0, rfl, (.cons (K _ _ rfl) (.cons (K _ _ rfl) (.cons (K _ _ rfl) (.cons (K _ _ rfl) (.cons (K _ _ rfl) (.cons (K _ _ rfl) (.cons (K _ _ rfl) (.cons (K _ _ rfl) (.cons (K _ _ rfl) (.cons (K _ _ rfl) .nil)))))))))), (B.step M).less (.refl _), (Nat.zero_le _), (fun j x hj => absurd hj (Nat.not_lt_zero j))⟩
   obtain ⟨k, rfl, K, B, hk, hno⟩ := hI
   have M := B.mem
   refine w_seq <| w_seq <| w_region <| o1 K (os_move rfl) rfl fun _ K => o1 K (os_move rfl) rfl fun _ K => o1 K (os_lenL un_S_S_int rfl rfl (hAs.len.trans (congrArg some (VsAt.ln ((B.step M).at_ (k := 0) rfl))))) rfl fun _ K => o1 K (os_lss rfl rfl) rfl fun _ K => ?_
   refine oB K (os_move rfl) rfl fun b26 _ e26 K => ?_
   cases b26
   ·replace e26 := of_decide_eq_false e26
    refine gn K rfl rfl rfl rfl fun _ K => gn K rfl rfl rfl rfl fun _ K => gn K rfl rfl rfl rfl fun _ K => gn K rfl rfl rfl rfl fun _ K => gn K rfl rfl rfl rfl fun _ K => gn K rfl rfl rfl rfl fun _ K => gn K rfl rfl rfl rfl fun _ K => o1 K (os_pick rfl rfl rfl) rfl fun _ K => wr_nil ?_
    show W _ _ _ _ _ _ _
    refine w_cond (t := false) (K.opd rfl) (fun h => by cases h) (fun _ => ?_)
    refine w_exit ?_
    exact ⟨k, (.cons (K _ _ rfl) (.cons (K _ _ rfl) (.cons (K _ _ rfl) (.cons (K _ _ rfl) (.cons (K _ _ rfl) (.cons (K _ _ rfl) (.cons (K _ _ rfl) (.cons (K _ _ rfl) (.cons (K _ _ rfl) (.cons (K _ _ rfl) .nil)))))))))), (B.step M).less (.refl _), hk, hno, (fun h => by first | (exfalso; omega) | (rw [hi29]; simp_all))⟩
   replace e26 := of_decide_eq_true e26
   refine og K rfl rfl (os_move rfl) rfl fun _ K => og K rfl rfl (os_move rfl) rfl fun _ K => ?_
   obtain ⟨s29, hi29⟩ : ∃ x, SG[k]? = some x := ⟨_, List.getElem?_eq_getElem (by omega)⟩
   obtain ⟨w29, hv29, hr29, hz29, hf29⟩ := VsAt.at_ ((B.step M).at_ (k := 0) rfl) _ _ hi29
   obtain ⟨x29, m29, f29, q29, _, la29, lo29, lp29⟩ := (hAs.rd fun c m l hm => M.row c m l (by simp [hm])).load (i := k) (cs := _) (by rw [List.getElem?_map, hv29]; rfl)
   refine og K rfl rfl (os_indexAddr (j := k) el_S_S_int (congrArg some q29) rfl (by rw [List.length_map, VsAt.ln ((B.step M).at_ (k := 0) rfl)]; omega)) rfl fun _ K => og K rfl rfl (os_load rfl (lo29 _ 0 _ tk_S_int rfl)) rfl fun _ K => og K rfl rfl (os_move rfl) rfl fun _ K => ?_
   obtain ⟨v32, st32, ev32, rfl, q32⟩ := sameZ_ev M.fresh hr29 (Mem.accR (L := ((c2, 0, [.int .i64 (((a.tr : Nat) : Int)), ka, kn]) :: (As ++ (Ao ++ [])))) (A := Ax) (B := []) (Mem.cast (M := ((c2, 0, [.int .i64 (((a.tr : Nat) : Int)), ka, kn]) :: (As ++ (Ao ++ (Ax ++ []))))) (M' := ((c2, 0, [.int .i64 (((a.tr : Nat) : Int)), ka, kn]) :: (As ++ (Ao ++ []))) ++ (Ax ++ [])) M (by first | (simp only [List.append_assoc, List.cons_append, List.nil_append, List.append_nil, List.set_cons_zero, List.set_cons_succ]; done) | (simp only [List.append_assoc, List.cons_append, List.nil_append, List.append_nil, List.set_cons_zero, List.set_cons_succ]; rfl))) hAx)
   refine og K rfl rfl (os_call rfl ev32) rfl fun _ K => ?_
   replace M := M.quiet q32
   refine og K rfl rfl (os_not rfl) rfl fun _ K => o1 K (os_pick rfl rfl rfl) rfl fun _ K => wr_nil ?_
   show W _ _ _ _ _ _ _
   refine w_cond (K.opd rfl) (fun h34 => ?_) (fun h34 => ?_)
   ·have hb34 := h34
    replace h34 : ¬ (s29 = sgn a cl i) := by first | simpa using h34 | (intro hq; rw [decide_eq_true hq] at h34; cases h34)
    refine w_skip ?_
    show W _ _ _ _ _ _ _
    refine w_block <| w_region <| o1 K (os_move rfl) rfl fun _ K => o1 K (os_add rfl rfl (by omega) (by omega)) rfl fun _ K => o1 K (os_assign rfl) rfl fun _ K => wr_nil ?_
    exact ⟨_, (by omega), k + 1, rfl, (.cons (K _ _ rfl) (.cons (K _ _ rfl) (.cons (K _ _ rfl) (.cons (K _ _ rfl) (.cons (K _ _ rfl) (.cons (K _ _ rfl) (.cons (K _ _ rfl) (.cons (K _ _ rfl) (.cons (K _ _ rfl) (.cons (K _ _ rfl) .nil)))))))))), (B.step M).less (.refl _), (by omega), (elems_more hno hi29 (by first | assumption | simp_all))⟩
   have hb34 := h34
   replace h34 : (s29 = sgn a cl i) := by first | simpa using h34 | (by_cases hq : (s29 = sgn a cl i); exact hq; rw [decide_eq_false hq] at h34; cases h34)
   refine w_exit ?_
   exact ⟨k, (.cons (K _ _ rfl) (.cons (K _ _ rfl) (.cons (K _ _ rfl) (.cons (K _ _ rfl) (.cons (K _ _ rfl) (.cons (K _ _ rfl) (.cons (K _ _ rfl) (.cons (K _ _ rfl) (.cons (K _ _ rfl) (.cons (K _ _ rfl) .nil)))))))))), (B.step M).less (.refl _), hk, hno, (fun h => by first | (exfalso; omega) | (rw [hi29]; simp_all))⟩
  obtain ⟨k, K, B, hk, hno, hyes⟩ := hJ
  have M := B.mem
  have hx64 : In64 (sgn a cl i) := sgn64 hcz i
  refine w_seq <| w_seq <| w_region <| o1 K (os_move rfl) rfl fun _ K => o1 K (os_move rfl) rfl fun _ K => o1 K (os_lenL un_S_S_int rfl rfl (hAs.len.trans (congrArg some (VsAt.ln ((B.step M).at_ (k := 0) rfl))))) rfl fun _ K => o1 K (os_eqI rfl rfl) rfl fun _ K => wr_nil ?_
  show W _ _ _ _ _ _ _
  refine w_cond (K.opd rfl) (fun h40 => ?_) (fun h40 => ?_)
  ·have hb40 := h40
   replace h40 := of_decide_eq_true h40
   refine w_region <| o1 K (os_move rfl) rfl fun _ K => o1 K (os_move rfl) rfl fun _ K => ?_
   refine wr_bs K M sl_S_S_int ze_S_int rfl ((fillA_one rfl hAx.cell rfl).trans rfl) (cl_cons hAx.cell cl_nil) rfl rfl fun c43 _ _ K M => ?_
   refine wr_accX (k2 := 0) (L := [(c43, 0, [v21]), (c2, 0, [.int .i64 (((a.tr : Nat) : Int)), ka, kn])]) (A := As) (B := (Ao ++ (Ax ++ []))) K M hAs sl_S_S_int rfl rfl rfl (by have := VsAt.ln ((B.step M).at_ (k := 0) rfl); have := hFin.le; omega) rfl fun ks44 A44 _ _ K hA44 _ M => ?_
   refine o1 K (os_assign rfl) rfl fun _ K => wr_nil ?_
   show W _ _ _ _ _ _ _
   refine w_region <| o1 K (os_move rfl) rfl fun _ K => o1 K (os_move rfl) rfl fun _ K => ?_
   refine wr_bs K M sl_S_int ze_int rfl rfl rfl rfl rfl fun c47 _ _ K M => ?_
   refine wr_acc00 (k2 := 0) (L := ((c47, 0, [.int .i64 (((k : Nat) : Int))]) :: (c43, 0, [v21]) :: (c2, 0, [.int .i64 (((a.tr : Nat) : Int)), ka, kn]) :: (A44 ++ []))) (A := Ao) (B := (Ax ++ [])) K (Mem.cast (M := ((c47, 0, [.int .i64 (((k : Nat) : Int))]) :: (c43, 0, [v21]) :: (c2, 0, [.int .i64 (((a.tr : Nat) : Int)), ka, kn]) :: (A44 ++ (Ao ++ (Ax ++ []))))) (M' := ((c47, 0, [.int .i64 (((k : Nat) : Int))]) :: (c43, 0, [v21]) :: (c2, 0, [.int .i64 (((a.tr : Nat) : Int)), ka, kn]) :: (A44 ++ [])) ++ (Ao ++ (Ax ++ []))) M (by first | (simp only [List.append_assoc, List.cons_append, List.nil_append, List.append_nil, List.set_cons_zero, List.set_cons_succ]; done) | (simp only [List.append_assoc, List.cons_append, List.nil_append, List.append_nil, List.set_cons_zero, List.set_cons_succ]; rfl))) hAo sl_S_int rfl rfl rfl rfl (by rw [zC_len, hFin.len]; omega) rfl fun ks48 A48 _ _ K hA48 M => ?_
   replace M := Mem.cast (M := ((c47, 0, [.int .i64 (((k : Nat) : Int))]) :: (c43, 0, [v21]) :: (c2, 0, [.int .i64 (((a.tr : Nat) : Int)), ka, kn]) :: (A44 ++ [])) ++ (A48 ++ (Ax ++ []))) (M' := ((c47, 0, [.int .i64 (((k : Nat) : Int))]) :: (c43, 0, [v21]) :: (c2, 0, [.int .i64 (((a.tr : Nat) : Int)), ka, kn]) :: (A44 ++ (A48 ++ (Ax ++ []))))) M (by first | (simp only [List.append_assoc, List.cons_append, List.nil_append, List.append_nil, List.set_cons_zero, List.set_cons_succ]; done) | (simp only [List.append_assoc, List.cons_append, List.nil_append, List.append_nil, List.set_cons_zero, List.set_cons_succ]; rfl))
   refine o1 K (os_assign rfl) rfl fun _ K => wr_nil ?_
   show W _ _ _ _ _ _ _
   refine w_region <| o1 K (os_move rfl) rfl fun _ K => o1 K (os_add rfl rfl (by omega) (by omega)) rfl fun _ K => o1 K (os_assign rfl) rfl fun _ K => wr_nil ?_
   replace B := B.step M
   obtain ⟨Fr, B⟩ := MemO.addRow (L := ((c47, 0, [.int .i64 (((k : Nat) : Int))]) :: (c43, 0, [v21]) :: (c2, 0, [.int .i64 (((a.tr : Nat) : Int)), ka, kn]) :: (A44 ++ (A48 ++ [])))) (A := Ax) (B := []) (B.cast (by first | (simp only [List.append_assoc, List.cons_append, List.nil_append, List.append_nil, List.set_cons_zero, List.set_cons_succ]; done) | (simp only [List.append_assoc, List.cons_append, List.nil_append, List.append_nil, List.set_cons_zero, List.set_cons_succ]; rfl))) hAx hx64
   replace B := B.cast (M' := ((c47, 0, [.int .i64 (((k : Nat) : Int))]) :: (c43, 0, [v21]) :: (c2, 0, [.int .i64 (((a.tr : Nat) : Int)), ka, kn]) :: (A44 ++ (A48 ++ [])))) (by first | (simp only [List.append_assoc, List.cons_append, List.nil_append, List.append_nil, List.set_cons_zero, List.set_cons_succ]; done) | (simp only [List.append_assoc, List.cons_append, List.nil_append, List.append_nil, List.set_cons_zero, List.set_cons_succ]; rfl))
   have M := B.mem
   exact ⟨_, (by omega), i + 1, SG ++ [sgn a cl i], _, _, ks44, A44, (out ++ [((k : Nat) : Int)]), ks48, A48, rfl, (.cons (K _ _ rfl) (.cons (K _ _ rfl) (.cons (K _ _ rfl) (.cons (K _ _ rfl) (.cons (K _ _ rfl) (.cons (K _ _ rfl) (.cons (K _ _ rfl) .nil))))))), (B.step M).less (.cons _ (.cons _ (.refl _))), (by rw [show ((k : Nat) : Int) = ((SG.length : Nat) : Int) by omega]; exact hFin.new fun hm => by obtain ⟨j, hj⟩ := List.getElem?_of_mem hm; exact hno j _ (by have := (List.getElem?_eq_some_iff.1 hj).1; omega) hj rfl), (by omega), hA44, (by rw [zC_app]; exact hA48)⟩
  have hb40 := h40
  replace h40 := of_decide_eq_false h40
  refine w_skip ?_
  show W _ _ _ _ _ _ _
  refine w_region <| o1 K (os_move rfl) rfl fun _ K => o1 K (os_move rfl) rfl fun _ K => ?_
  refine wr_bs K M sl_S_int ze_int rfl rfl rfl rfl rfl fun c47 _ _ K M => ?_
  refine wr_acc00 (k2 := 0) (L := ((c47, 0, [.int .i64 (((k : Nat) : Int))]) :: (c2, 0, [.int .i64 (((a.tr : Nat) : Int)), ka, kn]) :: (As ++ []))) (A := Ao) (B := (Ax ++ [])) K (Mem.cast (M := ((c47, 0, [.int .i64 (((k : Nat) : Int))]) :: (c2, 0, [.int .i64 (((a.tr : Nat) : Int)), ka, kn]) :: (As ++ (Ao ++ (Ax ++ []))))) (M' := ((c47, 0, [.int .i64 (((k : Nat) : Int))]) :: (c2, 0, [.int .i64 (((a.tr : Nat) : Int)), ka, kn]) :: (As ++ [])) ++ (Ao ++ (Ax ++ []))) M (by first | (simp only [List.append_assoc, List.cons_append, List.nil_append, List.append_nil, List.set_cons_zero, List.set_cons_succ]; done) | (simp only [List.append_assoc, List.cons_append, List.nil_append, List.append_nil, List.set_cons_zero, List.set_cons_succ]; rfl))) hAo sl_S_int rfl rfl rfl rfl (by rw [zC_len, hFin.len]; omega) rfl fun ks48 A48 _ _ K hA48 M => ?_
  replace M := Mem.cast (M := ((c47, 0, [.int .i64 (((k : Nat) : Int))]) :: (c2, 0, [.int .i64 (((a.tr : Nat) : Int)), ka, kn]) :: (As ++ [])) ++ (A48 ++ (Ax ++ []))) (M' := ((c47, 0, [.int .i64 (((k : Nat) : Int))]) :: (c2, 0, [.int .i64 (((a.tr : Nat) : Int)), ka, kn]) :: (As ++ (A48 ++ (Ax ++ []))))) M (by first | (simp only [List.append_assoc, List.cons_append, List.nil_append, List.append_nil, List.set_cons_zero, List.set_cons_succ]; done) | (simp only [List.append_assoc, List.cons_append, List.nil_append, List.append_nil, List.set_cons_zero, List.set_cons_succ]; rfl))
  refine o1 K (os_assign rfl) rfl fun _ K => wr_nil ?_
  show W _ _ _ _ _ _ _
  refine w_region <| o1 K (os_move rfl) rfl fun _ K => o1 K (os_add rfl rfl (by omega) (by omega)) rfl fun _ K => o1 K (os_assign rfl) rfl fun _ K => wr_nil ?_
  exact ⟨_, (by omega), i + 1, SG, _, _, ks, As, (out ++ [((k : Nat) : Int)]), ks48, A48, rfl, (.cons (K _ _ rfl) (.cons (K _ _ rfl) (.cons (K _ _ rfl) (.cons (K _ _ rfl) (.cons (K _ _ rfl) (.cons (K _ _ rfl) (.cons (K _ _ rfl) .nil))))))), (B.step M).less (.cons _ (.cons_cons _ (List.Sublist.append_left (List.Sublist.append_left (List.nil_sublist _) _) _))), (hFin.old (hyes (by omega))), (by omega), hAs, (by rw [zC_app]; exact hA48)⟩
 have hb15 := h15
 replace h15 := of_decide_eq_false h15
 refine w_exit ?_
 show W _ _ _ _ _ _ _
 refine w_seq <| w_region <| o1 K (os_move rfl) rfl fun _ K => o1 K (os_move rfl) rfl fun _ K => o1 K (os_lenL un_S_S_int rfl rfl (hAs.len.trans (congrArg some (VsAt.ln ((B.step M).at_ (k := 0) rfl))))) rfl fun _ K => o1 K (os_assign rfl) rfl fun _ K => o1 K (os_assign rfl) rfl fun _ K => wr_nil ?_
 show W _ _ _ _ _ _ _
 refine w_ret ?_
 refine ⟨.inr rfl, _, (res_two (rs_tmp K rfl) (rs_tmp K rfl)), ?_⟩
 have hie : i = a.n := by omega
 subst hie
 exact ⟨_, SG, out, rfl, hFin, (B.step M).newRow hAo (fun c m l h => by simp [h]), (B.step M).qt⟩

theorem onto64 {n : Nat} {cl : List Int} {k : Nat} (hl : cl.length = n) (h : Onto n cl k) (hk : k ≤ 400) : In64 cl := fun z hz => by
 obtain ⟨s, hs⟩ := List.getElem?_of_mem hz
 have h1 := h.1 s (by have := (List.getElem?_eq_some_iff.1 hs).1; omega)
 rw [cv_at hs] at h1
 constructor <;> omega
theorem ok_at {a : Au} {i : Nat} {y : Bool} (h : a.acc[i]? = some y) : a.ok i = y := by unfold Au.ok; rw [h]; rfl
theorem first64 {a : Au} {i : Nat} {cl : List Int} (H : FirstI a i cl) : In64 cl := fun z hz => by
 obtain ⟨s, hs⟩ := List.getElem?_of_mem hz
 have h1 := H.2 s (by have := (List.getElem?_eq_some_iff.1 hs).1; have := H.1; omega)
 rw [cv_at hs] at h1
 subst h1
 split <;> decide
theorem numI_le {n : Nat} {L nu : List Int} (H : NumI n L nu) (hn : L.Nodup) : L.length ≤ n := by
 have := nodup_le (b := (List.range n).map fun v => ((v : Nat) : Int)) hn fun x hx => by
  have := H.rng x hx
  exact List.mem_map.2 ⟨x.toNat, List.mem_range.2 (by omega), by omega⟩
 simpa using this

theorem classes_ev {st : St} (hf : Fresh st) {a : Au} (wf : WFA a) {ka kn : AV} {ls : List (List AV)} (hA : RdR st.h.get [] 1 (bC a.acc) ka) (hN : LsR st.h.get a.nx kn ls) : ∃ v st', Ev Tryz.prog envP 28 [.agg [.int .i64 (((a.tr : Nat) : Int)), ka, kn]] st v st' ∧ ∃ kr cl k, v = kr ∧ ClsOk a cl ∧ Onto a.n cl k ∧ NewR st st' 1 kr (zC cl) ∧ Qt st st' := by
 have hac := hA.cell; have hnc := hN.r.cell; have hmo := wf.most; have hps := wf.pos; have hln := wf.len; have hen : a.n = a.acc.length := rfl; have htr := wf.tr; have hp6 := pow_le64 htr; have hp0 : 0 < 2 ^ a.tr := Nat.two_pow_pos _
 have hrep : (List.replicate a.n (0 : Int)).length = a.n := List.length_replicate ..
 refine ev_fn rfl Tryz.func28 rfl Tryz.ntmps28 rfl (by decide) (by simp) fun T hT => ?_
 have K : KnT [(0, _)] T := (.cons (hT 0) .nil)
 have M := Mem.start hf
 refine w_seq <| w_region ?_
 refine wr_box K M rfl (cl_cons rfl (cl_cons hA.cell (cl_cons hN.r.cell cl_nil))) (by decide) fun c1 _ _ K M => ?_
 refine o1 K (os_assign rfl) rfl fun _ K => wr_nil ?_
 show W _ _ _ _ _ _ _
 refine w_seq <| w_region <| o1 K (os_fieldAddr fo_api_Auto_1 rfl) rfl fun _ K => o1 K (os_load rfl (M.load (k := 0) rfl (part_one tk_S_bool rfl))) rfl fun _ K => o1 K (os_lenL un_S_bool rfl rfl (hA.len.trans (congrArg some (bC_len _)))) rfl fun _ K => ?_
 refine wr_makeS (fun z => AV.int .i64 z) 0 (n := a.n) K M sl_S_int ze_int rfl (by omega) rfl fun c11 _ _ K M => ?_
 refine o1 K (os_assign rfl) rfl fun _ K => wr_nil ?_
 show W _ _ _ _ _ _ _
 refine w_seq <| w_seq <| w_region <| o1 K (os_assign rfl) rfl fun _ K => wr_nil ?_
 show W _ _ _ _ _ _ _
 refine w_block ?_
 refine w_loop (fun mm1 T st9 => ∃ (i : Nat) (cur : List Int), mm1 = a.n - i ∧ KnT [(1, .ptr c1 0 0), (2, .nils), (3, .sl c11 0 0 a.n 1), (4, .int .i64 (((i : Nat) : Int)))] T ∧ Mem st.h.get st.n [] st9 [(c11, 0, (cur.map (fun z => AV.int .i64 z))), (c1, 0, [.int .i64 (((a.tr : Nat) : Int)), ka, kn])] ∧ i ≤ a.n ∧ FirstI a i cur) (fun mm1 T st9 hI => ?_) _ _ _ ⟨0, _, rfl, (.cons (K _ _ rfl) (.cons (K _ _ rfl) (.cons (K _ _ rfl) (.cons (K _ _ rfl) .nil)))), M.less (.refl _), (Nat.zero_le _), (FirstI.start a)⟩
 obtain ⟨i, cur, rfl, K, M, hi, hfi⟩ := hI
 have hcl0 := hfi.1
 refine w_seq <| w_seq <| w_region <| o1 K (os_move rfl) rfl fun _ K => o1 K (os_fieldAddr fo_api_Auto_1 rfl) rfl fun _ K => o1 K (os_load rfl (M.load (k := 1) rfl (part_one tk_S_bool rfl))) rfl fun _ K => o1 K (os_lenL un_S_bool rfl rfl (hA.len.trans (congrArg some (bC_len _)))) rfl fun _ K => o1 K (os_lss rfl rfl) rfl fun _ K => wr_nil ?_
 show W _ _ _ _ _ _ _
 refine w_cond (K.opd rfl) (fun h16 => ?_) (fun h16 => ?_)
 ·have hb16 := h16
  replace h16 := of_decide_eq_true h16
  refine w_skip ?_
  show W _ _ _ _ _ _ _
  refine w_seq <| w_block <| w_seq ?_
  refine w_drawI (l := [(0, 0), (1, 0), (2, 0), (3, 0), (4, 0), (5, 0), (6, 0), (7, 0), (8, 0), (9, 0)]) (by kernel_rfl) ?_
  refine d1 rfl K (os_fieldAddr fo_api_Auto_1 rfl) rfl rfl fun _ K => d1 rfl K (os_load rfl (M.load (k := 1) rfl (part_one tk_S_bool rfl))) rfl rfl fun _ K => d1 rfl K (os_move rfl) rfl rfl fun _ K => ?_
  obtain ⟨y22, hi22⟩ : ∃ x, a.acc[i]? = some x := ⟨_, List.getElem?_eq_getElem (by omega)⟩
  obtain ⟨x22, m22, f22, q22, _, la22, lo22, lp22⟩ := (RdR.mem M hA (by simp)).load (i := i) (cs := _) (bC_get hi22)
  refine d1 rfl K (os_indexAddr (j := i) el_S_bool (congrArg some q22) rfl (by rw [bC_len]; omega)) rfl rfl fun _ K => d1 rfl K (os_load rfl (lo22 _ 0 _ tk_bool rfl)) rfl rfl fun _ K => d1 rfl K (os_fieldAddr fo_api_Auto_1 rfl) rfl rfl fun _ K => d1 rfl K (os_load rfl (M.load (k := 1) rfl (part_one tk_S_bool rfl))) rfl rfl fun _ K => ?_
  obtain ⟨y26, hi26⟩ : ∃ x, a.acc[0]? = some x := ⟨_, List.getElem?_eq_getElem (by omega)⟩
  obtain ⟨x26, m26, f26, q26, _, la26, lo26, lp26⟩ := (RdR.mem M hA (by simp)).load (i := 0) (cs := _) (bC_get hi26)
  refine d1 rfl K (os_indexAddr (j := 0) el_S_bool (congrArg some q26) rfl (by rw [bC_len]; omega)) rfl rfl fun _ K => d1 rfl K (os_load rfl (lo26 _ 0 _ tk_bool rfl)) rfl rfl fun _ K => d1 rfl K (os_neB un_bool rfl rfl) rfl rfl fun _ K => wd_nil ?_
  show W _ _ _ _ _ _ _
  refine w_cond (K.opd rfl) (fun h28 => ?_) (fun h28 => ?_)
  ·have hb28 := h28
   replace h28 : (y22 == y26) = false := by first | simpa using h28 | (revert h28; cases (y22 == y26) <;> simp)
   refine w_region <| o1 K (os_move rfl) rfl fun _ K => o1 K (os_move rfl) rfl fun _ K => ?_
   obtain ⟨y31, hi31⟩ : ∃ x, cur[i]? = some x := ⟨_, List.getElem?_eq_getElem (by omega)⟩
   refine o1 K (os_indexAddr (j := i) el_S_int rfl rfl (by omega)) rfl fun _ K => ?_
   refine wr_store1 (k := 0) K M rfl rfl rfl sz_int rfl (om_set (fun z => AV.int .i64 z) 1 (by omega)) fun _ M => ?_
   refine wr_nil ?_
   show W _ _ _ _ _ _ _
   refine w_region <| o1 K (os_move rfl) rfl fun _ K => o1 K (os_add rfl rfl (by omega) (by omega)) rfl fun _ K => o1 K (os_assign rfl) rfl fun _ K => wr_nil ?_
   exact ⟨_, (by omega), i + 1, _, rfl, (.cons (K _ _ rfl) (.cons (K _ _ rfl) (.cons (K _ _ rfl) (.cons (K _ _ rfl) .nil)))), M.less (.refl _), (by omega), (hfi.yes (by omega) (by rw [ok_at hi22, ok_at hi26]; simpa using h28))⟩
  have hb28 := h28
  replace h28 : (y22 == y26) = true := by first | simpa using h28 | (revert h28; cases (y22 == y26) <;> simp)
  refine w_skip ?_
  show W _ _ _ _ _ _ _
  refine w_region <| o1 K (os_move rfl) rfl fun _ K => o1 K (os_add rfl rfl (by omega) (by omega)) rfl fun _ K => o1 K (os_assign rfl) rfl fun _ K => wr_nil ?_
  exact ⟨_, (by omega), i + 1, _, rfl, (.cons (K _ _ rfl) (.cons (K _ _ rfl) (.cons (K _ _ rfl) (.cons (K _ _ rfl) .nil)))), M.less (.refl _), (by omega), (hfi.no (by rw [ok_at hi22, ok_at hi26]; simpa using h28))⟩
 have hb16 := h16
 replace h16 := of_decide_eq_false h16
 refine w_exit ?_
 show W _ _ _ _ _ _ _
 refine w_seq ?_
 replace M := Mem.cast (M' := ((c1, 0, [.int .i64 (((a.tr : Nat) : Int)), ka, kn]) :: ([(c11, 0, (cur.map (fun z => AV.int .i64 z)))] ++ []))) (Mem.perm M (List.perm_append_comm (α := Nat × Nat × List AV) (l₁ := [(c11, 0, (cur.map (fun z => AV.int .i64 z)))]) (l₂ := [(c1, 0, [.int .i64 (((a.tr : Nat) : Int)), ka, kn])]))) (by simp)
 have hAc0 : Acc 0 1 [(c11, 0, (cur.map (fun z => AV.int .i64 z)))] (.sl c11 0 0 a.n 1) (zC cur) := by have := Acc.ofM (fun z => AV.int .i64 z) (c := c11) (m := 0) (L := cur) (by rw [hfi.1]; omega); rw [hfi.1] at this; exact this
 have hie : i = a.n := by omega
 rw [hie] at hfi
 refine w_region <| o1 K (os_assign rfl) rfl fun _ K => wr_nil ?_
 show W _ _ _ _ _ _ _
 refine w_block ?_
 refine w_loop (fun mm2 T st9 => ∃ (cl : List Int) (kc : AV) (Ac : Rows1) (was : Nat), mm2 = a.n - was ∧ KnT [(1, .ptr c1 0 0), (3, kc), (5, .int .i64 (((was : Nat) : Int)))] T ∧ Mem st.h.get st.n [] st9 ((c1, 0, [.int .i64 (((a.tr : Nat) : Int)), ka, kn]) :: (Ac ++ [])) ∧ Fine a cl ∧ (was = 0 ∨ Onto a.n cl was) ∧ In64 cl ∧ Acc 0 1 Ac kc (zC cl)) (fun mm2 T st9 hI => ?_) _ _ _ ⟨cur, (.sl c11 0 0 a.n 1), [(c11, 0, (cur.map (fun z => AV.int .i64 z)))], 0, rfl, (.cons (K _ _ rfl) (.cons (K _ _ rfl) (.cons (K _ _ rfl) .nil))), M.less (.refl _), hfi.done, (.inl rfl), (first64 hfi), hAc0⟩
 obtain ⟨cl, kc, Ac, was, rfl, K, M, hF, hw, hcz, hAc⟩ := hI
 refine w_block <| w_seq <| w_region <| o1 K (os_load rfl (M.load (k := 0) rfl (part_agg tk_api_Auto rfl))) rfl fun _ K => o1 K (os_move rfl) rfl fun _ K => ?_
 obtain ⟨v35, st35, ev35, ko, SG, out, rfl, hFin, nro, q35⟩ := finer_ev M.fresh wf (RdR.mem M hA (by simp)) (hN.old hf fun c hc => M.old c hc (by simp)) (Mem.accR (L := [(c1, 0, [.int .i64 (((a.tr : Nat) : Int)), ka, kn])]) (A := Ac) (B := []) M hAc) hF.len hcz
 refine o1 K (os_call rfl ev35) rfl fun _ K => ?_
 obtain ⟨Ao, hAo, M⟩ := M.callAcc q35 nro
 replace hAo := hAo.z0
 obtain ⟨hfr, hon⟩ := hFin.done
 obtain ⟨hF2, hle2, hst2⟩ := cls_more wf hF hw hfr hon
 have hkn := onto_n hon
 replace M := Mem.cast (M' := ((c1, 0, [.int .i64 (((a.tr : Nat) : Int)), ka, kn]) :: (Ac ++ (Ao ++ [])))) M (by first | (simp only [List.append_assoc, List.cons_append, List.nil_append, List.append_nil, List.set_cons_zero, List.set_cons_succ]; done) | (simp only [List.append_assoc, List.cons_append, List.nil_append, List.append_nil, List.set_cons_zero, List.set_cons_succ]; rfl))
 replace M := M.less (.cons_cons _ (List.sublist_append_right _ _))
 refine o1 K (os_move rfl) rfl fun _ K => o1 K (os_extract rfl rfl) rfl fun _ K => o1 K (os_extract rfl rfl) rfl fun _ K => o1 K (os_assign rfl) rfl fun _ K => o1 K (os_assign rfl) rfl fun _ K => wr_nil ?_
 show W _ _ _ _ _ _ _
 refine w_seq <| w_seq <| w_region <| o1 K (os_move rfl) rfl fun _ K => o1 K (os_move rfl) rfl fun _ K => o1 K (os_eqI rfl rfl) rfl fun _ K => wr_nil ?_
 show W _ _ _ _ _ _ _
 refine w_cond (K.opd rfl) (fun h40 => ?_) (fun h40 => ?_)
 ·have hb40 := h40
  replace h40 := of_decide_eq_true h40
  refine w_seq <| w_region <| o1 K (os_move rfl) rfl fun _ K => o1 K (os_assign rfl) rfl fun _ K => wr_nil ?_
  show W _ _ _ _ _ _ _
  refine w_ret ?_
  refine ⟨.inr rfl, _, (res_one (rs_tmp K rfl)), ?_⟩
  exact ⟨_, out, SG.length, rfl, hst2 (by omega), hon, M.newRow hAo (fun c m l h => by simp [h]), M.qt⟩
 have hb40 := h40
 replace h40 := of_decide_eq_false h40
 refine w_skip ?_
 show W _ _ _ _ _ _ _
 refine w_region <| o1 K (os_move rfl) rfl fun _ K => o1 K (os_move rfl) rfl fun _ K => o1 K (os_assign rfl) rfl fun _ K => o1 K (os_assign rfl) rfl fun _ K => wr_nil ?_
 exact ⟨_, (by omega), out, ko, Ao, SG.length, rfl, (.cons (K _ _ rfl) (.cons (K _ _ rfl) (.cons (K _ _ rfl) .nil))), M.less (.refl _), hF2, (.inr hon), (onto64 hF2.len hon (by omega)), hAo⟩
end Go.Proofs.YtiknomepbklibaaGreatDoor
