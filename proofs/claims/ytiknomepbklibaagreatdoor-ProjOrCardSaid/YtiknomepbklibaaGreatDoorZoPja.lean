/-
  Closed by a track: the program's answer, the reference's.
-/
import Derived.Test.YtiknomepbklibaaGreatDoorZoAuD
import Derived.Test.YtiknomepbklibaaGreatDoorZoOr
import Derived.Test.YtiknomepbklibaaGreatDoorZoPjP
namespace Go.Proofs.YtiknomepbklibaaGreatDoor
open Go Go.RowKit
set_option linter.unusedVariables false
set_option linter.unusedSimpArgs false
set_option linter.unnecessarySimpa false
set_option maxRecDepth 100000
set_option maxHeartbeats 4000000

theorem WFA.withAcc {a : Au} (wf : WFA a) {acc : List Bool} (h : acc.length = a.n) : WFA ⟨a.tr, acc, a.nx⟩ := ⟨wf.tr, by show 1 ≤ acc.length; rw [h]; exact wf.pos, by show acc.length ≤ 400; rw [h]; exact wf.most, by show a.nx.length = acc.length; rw [h]; exact wf.len, fun r hr => by show r.length = a.K ∧ ∀ z ∈ r, 0 ≤ z ∧ z < acc.length; rw [h]; exact wf.row r hr⟩
theorem Mem.newRow {st0 st : St} {M A : Rows2} {z : Nat} {ks : AV} {ls : List (List AV)} (h : Mem st0.h.get st0.n [] st M) (hA : Acc 0 z A ks ls) (hs : ∀ c m l, (c, m, l) ∈ A → (c, m, l) ∈ M) : NewR st0 st z ks ls := by
 refine ⟨A, ?_, fun c m l hm => h.row c m l (hs c m l hm)⟩
 cases hA with
 | none => exact .none
 | own h1 h2 h3 => exact .own ((h.own _ _ _ (hs _ _ _ (List.mem_cons_self ..))).resolve_right (by simp)) h2 h3
theorem tk_lt {a : Au} {k : Nat} (wf : WFA a) (hk : k < a.tr) : 2 ^ k < 2 ^ a.tr := Nat.pow_lt_pow_right (by decide) hk

theorem isTrack_ev {st : St} (hf : Fresh st) {F : Fp} {dp : Nat} {a : Au} (hD : DfaI st F dp a) (k : Int) : ∃ v st', Ev Tryz.prog envP 60 [.ptr dp 0 0, .int .i64 k] st v st' ∧ v = .bool (decide (0 ≤ k ∧ k < a.tr)) ∧ Qt st st' := by
 refine ev_fn rfl Tryz.func60 rfl Tryz.ntmps60 rfl (by decide) (by simp) fun T hT => ?_
 have K : KnT [(0, _), (1, _)] T := (.cons (hT 0) (.cons (hT 1) .nil))
 have M := Mem.start hf
 refine w_seq <| w_region <| o1 K (os_assign rfl) rfl fun _ K => wr_nil ?_
 show W _ _ _ _ _ _ _
 refine w_seq <| w_region <| o1 K (os_move rfl) rfl fun _ K => o1 K (os_nePN un_P_auto_DFA rfl rfl) rfl fun _ K => o1 K (os_move rfl) rfl fun _ K => og K rfl rfl (os_move rfl) rfl fun _ K => og K rfl rfl (os_geq rfl rfl) rfl fun _ K => o1 K (os_pick rfl rfl rfl) rfl fun _ K => ?_
 refine oB K (os_move rfl) rfl fun b11 _ e11 K => ?_
 cases b11
 · replace e11 := of_decide_eq_false e11
   refine gn K rfl rfl rfl rfl fun _ K => gn K rfl rfl rfl rfl fun _ K => gn K rfl rfl rfl rfl fun _ K => gn K rfl rfl rfl rfl fun _ K => o1 K (os_pick rfl rfl rfl) rfl fun _ K => o1 K (os_assign rfl) rfl fun _ K => wr_nil ?_
   show W _ _ _ _ _ _ _
   refine w_ret ?_
   refine ⟨.inr rfl, _, (res_one (rs_tmp K rfl)), ?_⟩
   refine ⟨congrArg AV.bool ?_, M.qt⟩
   first
    | exact (decide_eq_decide.2 ⟨fun h => ⟨by omega, h⟩, fun h => h.2⟩)
    | exact (decide_eq_false (by omega)).symm
 replace e11 := of_decide_eq_true e11
 refine og K rfl rfl (os_move rfl) rfl fun _ K => og K rfl rfl (os_move rfl) rfl fun _ K => ?_
 obtain ⟨v14, st14, ev14, rfl, q14⟩ := dTracks_i M.fresh (hD.q M.qt)
 refine og K rfl rfl (os_call rfl ev14) rfl fun _ K => ?_
 replace M := M.quiet q14
 refine og K rfl rfl (os_lss rfl rfl) rfl fun _ K => o1 K (os_pick rfl rfl rfl) rfl fun _ K => o1 K (os_assign rfl) rfl fun _ K => wr_nil ?_
 show W _ _ _ _ _ _ _
 refine w_ret ?_
 refine ⟨.inr rfl, _, (res_one (rs_tmp K rfl)), ?_⟩
 refine ⟨congrArg AV.bool ?_, M.qt⟩
 first
  | exact (decide_eq_decide.2 ⟨fun h => ⟨by omega, h⟩, fun h => h.2⟩)
  | exact (decide_eq_false (by omega)).symm

theorem pClose_ev {st : St} (hf : Fresh st) {F : Fp} {dp : Nat} {a : Au} (hD : DfaI st F dp a) {k : Nat} (hk : k < a.tr) : ∃ v st', Ev Tryz.prog envP 35 [.ptr dp 0 0, .int .i64 (((k : Nat) : Int))] st v st' ∧ ∃ dp2 F2 acc, v = .tup [.ptr dp2 0 0, .int .i64 0] ∧ ClAcc a k acc ∧ DfaI st' F2 dp2 ⟨a.tr, acc, a.nx⟩ ∧ NewF st st' F2 ∧ Qt st st' := by
 have wf := hD.wf
 have hpk := tk_lt wf hk; have hp64 := pow_le64 wf.tr; have hps := wf.pos; have hmo := wf.most; have hln := wf.len; have hen : a.n = a.acc.length := rfl; have htr := wf.tr; have hp0 : 0 < 2 ^ a.tr := Nat.two_pow_pos _
 have B := MemO.start hf
 refine ev_fn rfl Tryz.func35 rfl Tryz.ntmps35 rfl (by decide) (by simp) fun T hT => ?_
 have K : KnT [(0, _), (1, _)] T := (.cons (hT 0) (.cons (hT 1) .nil))
 have M := B.mem
 refine w_seq <| w_region <| o1 K (os_assign rfl) rfl fun _ K => o1 K (os_assign rfl) rfl fun _ K => wr_nil ?_
 show W _ _ _ _ _ _ _
 refine w_seq <| w_seq <| w_region <| o1 K (os_move rfl) rfl fun _ K => o1 K (os_move rfl) rfl fun _ K => ?_
 obtain ⟨v12, st12, ev12, rfl, q12⟩ := isTrack_ev M.fresh (hD.q M.qt) ((k : Nat) : Int)
 refine o1 K (os_call rfl ev12) rfl fun _ K => ?_
 replace M := M.quiet q12
 refine o1 K (os_not rfl) rfl fun _ K => wr_nil ?_
 show W _ _ _ _ _ _ _
 refine w_cond (K.opd rfl) (fun h13 => ?_) (fun h13 => ?_)
 · have hb13 := h13
   replace h13 : ¬ (0 ≤ ((k : Nat) : Int) ∧ ((k : Nat) : Int) < a.tr) := by simpa using h13
   exfalso; omega
 have hb13 := h13
 replace h13 : (0 ≤ ((k : Nat) : Int) ∧ ((k : Nat) : Int) < a.tr) := by simpa using h13
 refine w_skip ?_
 show W _ _ _ _ _ _ _
 refine w_seq <| w_region <| o1 K (os_move rfl) rfl fun _ K => ?_
 replace B := B.step M
 obtain ⟨v15, st15, ev15, nau15, q15⟩ := dTo_i B.fresh (hD.q B.qt)
 refine o1 K (os_call rfl ev15) rfl fun _ K => ?_
 obtain ⟨_, kn, vs, _, Fn, rfl, hAa, B⟩ := B.newAu q15 nau15
 obtain ⟨ca, ma, rfl, rfl⟩ := Acc.openM (f := AV.bool) (L := a.acc) hAa (by omega)
 have hnc : isCell kn = true := (B.at_ (k := 0) rfl).rd.cell
 replace B := B.cast (M' := [(ca, ma, (a.acc.map AV.bool))]) (by simp)
 have M := B.mem
 refine wr_alloc K M ze_api_Auto (by decide) fun c6 _ _ K M => ?_
 refine wr_store (k := 0) K M rfl rfl rfl sz_api_Auto rfl (cl_cons rfl (cl_cons rfl (cl_cons ((B.step M).at_ (k := 0) rfl).rd.cell cl_nil))) rfl fun _ M => ?_
 refine wr_nil ?_
 show W _ _ _ _ _ _ _
 refine w_seq <| w_seq <| w_region <| o1 K (os_assign rfl) rfl fun _ K => wr_nil ?_
 show W _ _ _ _ _ _ _
 refine w_block ?_
 refine w_loop (fun mm1 T st9 => ∃ (cur : List Bool) (more : Bool), mm1 = cMeas cur more ∧ KnT [(1, .int .i64 (((k : Nat) : Int))), (4, .nilp), (5, .int .i64 0), (6, .ptr c6 0 0), (7, .bool more)] T ∧ MemO st noX st9 [(c6, 0, [.int .i64 (((a.tr : Nat) : Int)), .sl ca ma 0 a.acc.length 1, kn]), (ca, ma, (cur.map AV.bool))] [lsO Fn kn vs a.nx] ∧ CInv a k cur ∧ (more = false → ∀ s, s < a.n → Shut a k cur s)) (fun mm1 T st9 hI => ?_) _ _ _ ⟨_, true, rfl, (.cons (K _ _ rfl) (.cons (K _ _ rfl) (.cons (K _ _ rfl) (.cons (K _ _ rfl) (.cons (K _ _ rfl) .nil))))), (B.step M).less (.refl _), (CInv.start a k), (fun h => by cases h)⟩
 obtain ⟨cur, more, rfl, K, B, hinv, hsh⟩ := hI
 have M := B.mem
 have hcl1 := hinv.len
 refine w_seq <| w_seq <| w_region <| o1 K (os_move rfl) rfl fun _ K => wr_nil ?_
 show W _ _ _ _ _ _ _
 refine w_cond (K.opd rfl) (fun h16 => ?_) (fun h16 => ?_)
 · have hb16 := h16
   refine w_skip ?_
   show W _ _ _ _ _ _ _
   refine w_block <| w_seq <| w_region <| o1 K (os_assign rfl) rfl fun _ K => wr_nil ?_
   show W _ _ _ _ _ _ _
   refine w_seq <| w_region <| o1 K (os_fieldAddr fo_api_Auto_2 rfl) rfl fun _ K => o1 K (os_load rfl (M.load (k := 0) rfl (part_one tk_S_S_int rfl))) rfl fun _ K => o1 K (os_lenL un_S_S_int rfl rfl ((B.step M).at_ (k := 0) rfl).len) rfl fun _ K => o1 K (os_move rfl) rfl fun _ K => wr_nil ?_
   show W _ _ _ _ _ _ _
   refine w_block ?_
   refine w_loop (fun mm2 T st9 => ∃ (s : Nat) (cur2 : List Bool) (more2 : Bool), mm2 = a.nx.length - s ∧ KnT [(1, .int .i64 (((k : Nat) : Int))), (4, .nilp), (5, .int .i64 0), (6, .ptr c6 0 0), (7, .bool more2), (18, kn), (19, .int .i64 (((a.nx.length : Nat) : Int))), (20, .int .i64 (((s : Nat) : Int)))] T ∧ MemO st noX st9 [(c6, 0, [.int .i64 (((a.tr : Nat) : Int)), .sl ca ma 0 a.acc.length 1, kn]), (ca, ma, (cur2.map AV.bool))] [lsO Fn kn vs a.nx] ∧ CIn a k cur cur2 more2 s ∧ s ≤ a.nx.length) (fun mm2 T st9 hI => ?_) _ _ _ ⟨0, _, _, rfl, (.cons (K _ _ rfl) (.cons (K _ _ rfl) (.cons (K _ _ rfl) (.cons (K _ _ rfl) (.cons (K _ _ rfl) (.cons (K _ _ rfl) (.cons (K _ _ rfl) (.cons (K _ _ rfl) .nil)))))))), (B.step M).less (.refl _), (CIn.start hinv), (Nat.zero_le _)⟩
   obtain ⟨s, cur2, more2, rfl, K, B, hin, hsi⟩ := hI
   have M := B.mem
   have hcl2 := hin.inv.len
   refine w_seq <| w_region <| o1 K (os_lss rfl rfl) rfl fun _ K => wr_nil ?_
   show W _ _ _ _ _ _ _
   refine w_seq ?_
   refine w_cond (K.opd rfl) (fun h21 => ?_) (fun h21 => ?_)
   · have hb21 := h21
     replace h21 := of_decide_eq_true h21
     refine w_skip ?_
     show W _ _ _ _ _ _ _
     refine w_seq <| w_block <| w_seq <| w_region <| o1 K (os_move rfl) rfl fun _ K => ?_
     obtain ⟨s23, hi23⟩ : ∃ x, a.nx[s]? = some x := ⟨_, List.getElem?_eq_getElem (by omega)⟩
     obtain ⟨w23, hv23, hr23, hz23, hf23⟩ := ((B.step M).at_ (k := 0) rfl).vs.at_ _ _ hi23
     have hw23 := wf.row s23 (List.mem_of_getElem? hi23)
     have hl23 : s23.length = 2 ^ a.tr := hw23.1
     obtain ⟨x23, m23, f23, q23, _, la23, lo23, lp23⟩ := ((B.step M).at_ (k := 0) rfl).rd.load (i := s) (cs := _) (by rw [List.getElem?_map, hv23]; rfl)
     refine o1 K (os_indexAddr (j := s) el_S_S_int (congrArg some q23) rfl (by rw [List.length_map, ((B.step M).at_ (k := 0) rfl).vs.ln]; omega)) rfl fun _ K => o1 K (os_load rfl (lo23 _ 0 _ tk_S_int rfl)) rfl fun _ K => o1 K (os_assign rfl) rfl fun _ K => o1 K (os_assign rfl) rfl fun _ K => wr_nil ?_
     show W _ _ _ _ _ _ _
     refine w_seq ?_
     refine w_drawI (l := [(0, 0), (1, 0), (2, 0), (3, 0), (4, 0), (5, 0), (6, 0), (7, 0), (8, 0), (9, 0), (10, 0), (11, 0), (12, 0), (13, 0), (14, 0), (15, 0), (16, 0), (17, 0), (18, 0), (19, 0), (20, 0), (21, 0), (22, 0), (23, 0), (24, 0), (25, 0)]) (by kernel_rfl) ?_
     refine d1 rfl K (os_fieldAddr fo_api_Auto_1 rfl) rfl rfl fun _ K => d1 rfl K (os_load rfl (M.load (k := 0) rfl (part_one tk_S_bool rfl))) rfl rfl fun _ K => d1 rfl K (os_move rfl) rfl rfl fun _ K => ?_
     obtain ⟨y28, hi28⟩ : ∃ x, cur2[s]? = some x := ⟨_, List.getElem?_eq_getElem (by omega)⟩
     refine d1 rfl K (os_indexAddr (j := s) el_S_bool rfl rfl (by omega)) rfl rfl fun _ K => d1 rfl K (os_load rfl (M.load (k := 1) rfl (part_one tk_bool (om_get AV.bool hi28)))) rfl rfl fun _ K => d1 rfl K (os_not rfl) rfl rfl fun _ K => ?_
     refine dB rfl K (os_move rfl) rfl rfl fun b31 _ e31 K => ?_
     cases b31
     · replace e31 : (y28) = true := by first | simpa using e31 | (revert e31; cases (y28) <;> simp)
       refine dgn rfl K rfl rfl rfl rfl fun _ _ K => dgn rfl K rfl rfl rfl rfl fun _ _ K => dgn rfl K rfl rfl rfl rfl fun _ _ K => dgn rfl K rfl rfl rfl rfl fun _ _ K => dgn rfl K rfl rfl rfl rfl fun _ _ K => dgn rfl K rfl rfl rfl rfl fun _ _ K => dgn rfl K rfl rfl rfl rfl fun _ _ K => dgn rfl K rfl rfl rfl rfl fun _ _ K => ?_
       refine dgnT rfl K rfl rfl rfl fun _ _ K => ?_
       refine dgnT rfl K rfl rfl rfl fun _ _ K => ?_
       refine dgnT rfl K rfl rfl rfl fun _ _ K => ?_
       refine dgnT rfl K rfl rfl rfl fun _ _ K => ?_
       refine dgnT rfl K rfl rfl rfl fun _ _ K => ?_
       refine dgnT rfl K rfl rfl rfl fun _ _ K => ?_
       refine dgnT rfl K rfl rfl rfl fun _ _ K => ?_
       refine dgnT rfl K rfl rfl rfl fun _ _ K => ?_
       refine dgnT rfl K rfl rfl rfl fun _ _ K => ?_
       refine dgn rfl K rfl rfl rfl rfl fun _ _ K => d1 rfl K (os_pick rfl rfl rfl) rfl rfl fun _ K => wd_nil ?_
       show W _ _ _ _ _ _ _
       refine w_cond (t := false) (K.opd rfl) (fun h => by cases h) (fun _ => ?_)
       refine w_skip ?_
       show W _ _ _ _ _ _ _
       refine w_region <| o1 K (os_add rfl rfl (by omega) (by omega)) rfl fun _ K => o1 K (os_move rfl) rfl fun _ K => wr_nil ?_
       have hcin := hin.keep (show Shut a k cur2 s by
         first
         | exact fun _ => by rw [bvl_at hi28]; exact e31
         | (intro hh
            rcases hh with hh | hh
            · rw [go_row hi23 hi35, bvl_at hi37] at hh; simp_all [bif_true, bif_false]
            · rw [go_row hi23 hi45, bvl_at hi47] at hh; simp_all [bif_true, bif_false]))
       exact ⟨_, (by omega), s + 1, cur2, more2, rfl, (.cons (K _ _ rfl) (.cons (K _ _ rfl) (.cons (K _ _ rfl) (.cons (K _ _ rfl) (.cons (K _ _ rfl) (.cons (K _ _ rfl) (.cons (K _ _ rfl) (.cons (K _ _ rfl) .nil)))))))), (B.step M).less (.refl _), hcin, (by omega)⟩
     replace e31 : (y28) = false := by first | simpa using e31 | (revert e31; cases (y28) <;> simp)
     refine dg rfl K rfl rfl (os_fieldAddr fo_api_Auto_1 rfl) rfl rfl fun _ K => dg rfl K rfl rfl (os_load rfl (M.load (k := 0) rfl (part_one tk_S_bool rfl))) rfl rfl fun _ K => dg rfl K rfl rfl (os_move rfl) rfl rfl fun _ K => ?_
     obtain ⟨y35, hi35⟩ : ∃ x, s23[0]? = some x := ⟨_, List.getElem?_eq_getElem (by omega)⟩
     have hb35 := hw23.2 y35 (List.mem_of_getElem? hi35)
     obtain ⟨x35, m35, f35, q35, _, la35, lo35, lp35⟩ := hr23.load (i := 0) (cs := _) (zC_get hi35)
     refine dg rfl K rfl rfl (os_indexAddr (j := 0) el_S_int (congrArg some q35) rfl (by rw [zC_len]; omega)) rfl rfl fun _ K => dg rfl K rfl rfl (os_load rfl (lo35 _ 0 _ tk_int rfl)) rfl rfl fun _ K => ?_
     obtain ⟨y37, hi37⟩ : ∃ x, cur2[(y35).toNat]? = some x := ⟨_, List.getElem?_eq_getElem (by omega)⟩
     refine dg rfl K rfl rfl (os_indexAddr (j := (y35).toNat) el_S_bool rfl (congrArg (fun z => some (AV.int .i64 z)) (by omega : _ = (((y35).toNat : Nat) : Int))) (by omega)) rfl rfl fun _ K => dg rfl K rfl rfl (os_load rfl (M.load (k := 1) rfl (part_one tk_bool (om_get AV.bool hi37)))) rfl rfl fun _ K => ?_
     refine dGB rfl K rfl rfl (os_move rfl) rfl rfl fun b39 _ e39 K => ?_
     cases b39
     · refine dg rfl K rfl rfl (os_fieldAddr fo_api_Auto_1 rfl) rfl rfl fun _ K => dg rfl K rfl rfl (os_load rfl (M.load (k := 0) rfl (part_one tk_S_bool rfl))) rfl rfl fun _ K => dg rfl K rfl rfl (os_move rfl) rfl rfl fun _ K => dg rfl K rfl rfl (os_move rfl) rfl rfl fun _ K => dg rfl K rfl rfl (os_shl1 (n := k) rfl rfl (by omega)) rfl rfl fun _ K => ?_
       obtain ⟨y45, hi45⟩ : ∃ x, s23[2 ^ k]? = some x := ⟨_, List.getElem?_eq_getElem (by omega)⟩
       have hb45 := hw23.2 y45 (List.mem_of_getElem? hi45)
       obtain ⟨x45, m45, f45, q45, _, la45, lo45, lp45⟩ := hr23.load (i := 2 ^ k) (cs := _) (zC_get hi45)
       refine dg rfl K rfl rfl (os_indexAddr (j := 2 ^ k) el_S_int (congrArg some q45) rfl (by rw [zC_len]; omega)) rfl rfl fun _ K => dg rfl K rfl rfl (os_load rfl (lo45 _ 0 _ tk_int rfl)) rfl rfl fun _ K => ?_
       obtain ⟨y47, hi47⟩ : ∃ x, cur2[(y45).toNat]? = some x := ⟨_, List.getElem?_eq_getElem (by omega)⟩
       refine dg rfl K rfl rfl (os_indexAddr (j := (y45).toNat) el_S_bool rfl (congrArg (fun z => some (AV.int .i64 z)) (by omega : _ = (((y45).toNat : Nat) : Int))) (by omega)) rfl rfl fun _ K => dg rfl K rfl rfl (os_load rfl (M.load (k := 1) rfl (part_one tk_bool (om_get AV.bool hi47)))) rfl rfl fun _ K => dg rfl K rfl rfl (os_pick rfl rfl rfl) rfl rfl fun _ K => d1 rfl K (os_pick rfl rfl rfl) rfl rfl fun _ K => wd_nil ?_
       show W _ _ _ _ _ _ _
       refine w_cond (K.opd rfl) (fun h50 => ?_) (fun h50 => ?_)
       · have hb50 := h50
         refine w_region <| o1 K (os_fieldAddr fo_api_Auto_1 rfl) rfl fun _ K => o1 K (os_load rfl (M.load (k := 0) rfl (part_one tk_S_bool rfl))) rfl fun _ K => o1 K (os_move rfl) rfl fun _ K => ?_
         obtain ⟨y54, hi54⟩ : ∃ x, cur2[s]? = some x := ⟨_, List.getElem?_eq_getElem (by omega)⟩
         refine o1 K (os_indexAddr (j := s) el_S_bool rfl rfl (by omega)) rfl fun _ K => ?_
         refine wr_store1 (k := 1) K M rfl rfl rfl sz_bool rfl (om_set AV.bool true (by omega)) fun _ M => ?_
         refine o1 K (os_assign rfl) rfl fun _ K => wr_nil ?_
         show W _ _ _ _ _ _ _
         refine w_region <| o1 K (os_add rfl rfl (by omega) (by omega)) rfl fun _ K => o1 K (os_move rfl) rfl fun _ K => wr_nil ?_
         have hcin := CIn.set hin (show s < a.n by omega) (wf.go_lt (show s < a.n by omega) hp0) (wf.go_lt (show s < a.n by omega) hpk) (by rw [hi28, e31]) (by
           first
           | exact .inl (by rw [go_row hi23 hi35, bvl_at hi37]; assumption)
           | exact .inr (by rw [go_row hi23 hi45, bvl_at hi47]; simp_all [bif_true, bif_false]))
         exact ⟨_, (by omega), s + 1, (cur2.set s true), true, rfl, (.cons (K _ _ rfl) (.cons (K _ _ rfl) (.cons (K _ _ rfl) (.cons (K _ _ rfl) (.cons (K _ _ rfl) (.cons (K _ _ rfl) (.cons (K _ _ rfl) (.cons (K _ _ rfl) .nil)))))))), (B.step M).less (.refl _), hcin, (by omega)⟩
       have hb50 := h50
       refine w_skip ?_
       show W _ _ _ _ _ _ _
       refine w_region <| o1 K (os_add rfl rfl (by omega) (by omega)) rfl fun _ K => o1 K (os_move rfl) rfl fun _ K => wr_nil ?_
       have hcin := hin.keep (show Shut a k cur2 s by
         first
         | exact fun _ => by rw [bvl_at hi28]; exact e31
         | (intro hh
            rcases hh with hh | hh
            · rw [go_row hi23 hi35, bvl_at hi37] at hh; simp_all [bif_true, bif_false]
            · rw [go_row hi23 hi45, bvl_at hi47] at hh; simp_all [bif_true, bif_false]))
       exact ⟨_, (by omega), s + 1, cur2, more2, rfl, (.cons (K _ _ rfl) (.cons (K _ _ rfl) (.cons (K _ _ rfl) (.cons (K _ _ rfl) (.cons (K _ _ rfl) (.cons (K _ _ rfl) (.cons (K _ _ rfl) (.cons (K _ _ rfl) .nil)))))))), (B.step M).less (.refl _), hcin, (by omega)⟩
     refine dgn rfl K rfl rfl rfl rfl fun _ _ K => dgn rfl K rfl rfl rfl rfl fun _ _ K => dgn rfl K rfl rfl rfl rfl fun _ _ K => dgn rfl K rfl rfl rfl rfl fun _ _ K => dgn rfl K rfl rfl rfl rfl fun _ _ K => dgn rfl K rfl rfl rfl rfl fun _ _ K => dgn rfl K rfl rfl rfl rfl fun _ _ K => dgn rfl K rfl rfl rfl rfl fun _ _ K => dgn rfl K rfl rfl rfl rfl fun _ _ K => ?_
     refine dg rfl K rfl rfl (os_pick rfl rfl rfl) rfl rfl fun _ K => d1 rfl K (os_pick rfl rfl rfl) rfl rfl fun _ K => wd_nil ?_
     show W _ _ _ _ _ _ _
     refine w_cond (t := true) (K.opd rfl) (fun _ => ?_) (fun h => by cases h)
     refine w_region <| o1 K (os_fieldAddr fo_api_Auto_1 rfl) rfl fun _ K => o1 K (os_load rfl (M.load (k := 0) rfl (part_one tk_S_bool rfl))) rfl fun _ K => o1 K (os_move rfl) rfl fun _ K => ?_
     obtain ⟨y54, hi54⟩ : ∃ x, cur2[s]? = some x := ⟨_, List.getElem?_eq_getElem (by omega)⟩
     refine o1 K (os_indexAddr (j := s) el_S_bool rfl rfl (by omega)) rfl fun _ K => ?_
     refine wr_store1 (k := 1) K M rfl rfl rfl sz_bool rfl (om_set AV.bool true (by omega)) fun _ M => ?_
     refine o1 K (os_assign rfl) rfl fun _ K => wr_nil ?_
     show W _ _ _ _ _ _ _
     refine w_region <| o1 K (os_add rfl rfl (by omega) (by omega)) rfl fun _ K => o1 K (os_move rfl) rfl fun _ K => wr_nil ?_
     have hcin := CIn.set hin (show s < a.n by omega) (wf.go_lt (show s < a.n by omega) hp0) (wf.go_lt (show s < a.n by omega) hpk) (by rw [hi28, e31]) (by
       first
       | exact .inl (by rw [go_row hi23 hi35, bvl_at hi37]; assumption)
       | exact .inr (by rw [go_row hi23 hi45, bvl_at hi47]; simp_all [bif_true, bif_false]))
     exact ⟨_, (by omega), s + 1, (cur2.set s true), true, rfl, (.cons (K _ _ rfl) (.cons (K _ _ rfl) (.cons (K _ _ rfl) (.cons (K _ _ rfl) (.cons (K _ _ rfl) (.cons (K _ _ rfl) (.cons (K _ _ rfl) (.cons (K _ _ rfl) .nil)))))))), (B.step M).less (.refl _), hcin, (by omega)⟩
   have hb21 := h21
   replace h21 := of_decide_eq_false h21
   refine w_exit ?_
   have hmeas : cMeas cur2 more2 < cMeas cur more := by rw [show more = true from hb16]; exact hin.meas
   have hsh2 : more2 = false → ∀ s, s < a.n → Shut a k cur2 s := fun e t ht => (hin.no e).1 ▸ ((hin.no e).2 t (by omega))
   exact ⟨_, hmeas, _, _, rfl, (.cons (K _ _ rfl) (.cons (K _ _ rfl) (.cons (K _ _ rfl) (.cons (K _ _ rfl) (.cons (K _ _ rfl) .nil))))), (B.step M).less (.refl _), hin.inv, hsh2⟩
 have hb16 := h16
 refine w_exit ?_
 show W _ _ _ _ _ _ _
 refine w_seq <| w_region <| o1 K (os_load rfl (M.load (k := 0) rfl (part_agg tk_api_Auto rfl))) rfl fun _ K => ?_
 replace B := B.step M
 have hca := hinv.done wf hpk (hsh (by simpa using hb16))
 have wf2 := wf.withAcc (acc := cur) hca.len
 obtain ⟨v57, st57, ev57, dp2, F2, rfl, hD2, nf2, q57⟩ := aFrom_ev (a := ⟨a.tr, cur, a.nx⟩) B.fresh wf2 (Row1.rdM (f := AV.bool) (L := cur) (B.row ca ma _ (by simp)) (by omega) (by omega)) (B.at_ (k := 0) rfl).r
 refine o1 K (os_call rfl ev57) rfl fun _ K => ?_
 replace B := B.new (o := dfaO F2 dp2 ⟨a.tr, cur, a.nx⟩) q57 hD2.at_ nf2
 have M := B.mem
 refine o1 K (os_extract rfl rfl) rfl fun _ K => o1 K (os_extract rfl rfl) rfl fun _ K => o1 K (os_assign rfl) rfl fun _ K => o1 K (os_assign rfl) rfl fun _ K => wr_nil ?_
 show W _ _ _ _ _ _ _
 refine w_ret ?_
 refine ⟨.inr rfl, _, (res_two (rs_tmp K rfl) (rs_tmp K rfl)), ?_⟩
 exact ⟨dp2, F2, cur, rfl, hca, B.dfa (k := 0) rfl, (B.step M).lo0 (k := 0) rfl, (B.step M).qt⟩

end Go.Proofs.YtiknomepbklibaaGreatDoor
