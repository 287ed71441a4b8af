/-
  The reference's least automaton; are two automata one?
-/
import Derived.Test.YtiknomepbklibaaGreatDoorZoR24
namespace Go.Proofs.YtiknomepbklibaaGreatDoor
open Go Go.RowKit
set_option linter.unusedVariables false
set_option linter.unusedSimpArgs false
set_option linter.unnecessarySimpa false
set_option maxRecDepth 100000
set_option maxHeartbeats 4000000

/-- Exploring classes by states that stand for them. -/
structure MinI (a : Au) (cl : List Int) (ls : List Nat) (rows : List (List Int)) (row nu : List Int) : Prop where
  pr : PrI (clGo a cl) (cv cl 0) (2 ^ a.tr) (ls.map (cv cl)) rows row
  nu : NumI a.n (ls.map (cv cl)) nu
  lt : ∀ s ∈ ls, s < a.n
section
variable {a : Au} {cl : List Int} {ls : List Nat} {rows : List (List Int)} {row nu : List Int}
theorem MinI.le (H : MinI a cl ls rows row nu) : ls.length ≤ a.n := by
 have := numI_le H.nu H.pr.nodup
 simpa using this
theorem MinI.start (W : WFA a) {k : Nat} (ho : Onto a.n cl k) {nu : List Int} (hl : nu.length = a.n) (h : ∀ s, s < a.n → cv nu s = -1) : MinI a cl [0] [] [] (nu.set (cv cl 0).toNat 0) := by
 have h0 := ho.1 0 W.pos
 have hk := onto_n ho
 exact ⟨PrI.start _ _ _, NumI.start hl h h0.1 (by omega), fun s hs => by rw [List.mem_singleton.1 hs]; exact W.pos⟩
/-- The class of a next state. -/
theorem MinI.next (W : WFA a) (hc : ClsOk a cl) {s y : Nat} (hs : ls[rows.length]? = some s) (hls : s < a.n) (hr : row.length < 2 ^ a.tr) (hy : a.go s row.length = y) : (ls.map (cv cl))[rows.length]? = some (cv cl s) ∧ clGo a cl (cv cl s) row.length = cv cl y := by
  refine ⟨by rw [List.getElem?_map, hs]; rfl, ?_⟩
  rw [clGo_at (hc.stable W) hls hr, hy]
theorem MinI.new (H : MinI a cl ls rows row nu) (W : WFA a) (hc : ClsOk a cl) {k : Nat} (ho : Onto a.n cl k) {s y : Nat} (hs : ls[rows.length]? = some s) (hr : row.length < 2 ^ a.tr) (hy : a.go s row.length = y) (hyn : y < a.n) (hn : cv nu (cv cl y).toNat < 0) :
  MinI a cl (ls ++ [y]) rows (row ++ [((ls.length : Nat) : Int)]) (nu.set (cv cl y).toNat ((ls.length : Nat) : Int)) := by
 have hls := H.lt s (List.mem_of_getElem? hs)
 have hb := ho.1 y hyn
 have hk := onto_n ho
 obtain ⟨h1, h2⟩ := MinI.next W hc hs hls hr hy
 rcases H.nu.mem hb.1 (by omega) rfl with ⟨_, h3⟩ | ⟨j, h3, _⟩
 ·have h4 := H.pr.new hr h1 (by rw [h2]; exact h3)
  rw [h2, List.length_map] at h4
  have h5 := H.nu.new hb.1 (by omega) h3
  rw [List.length_map] at h5
  refine ⟨by rw [List.map_append]; exact h4, by rw [List.map_append]; exact h5, fun t ht => ?_⟩
  rcases List.mem_append.1 ht with ht | ht
  ·exact H.lt t ht
  ·rw [List.mem_singleton.1 ht]; exact hyn
 ·omega
theorem MinI.old (H : MinI a cl ls rows row nu) (W : WFA a) (hc : ClsOk a cl) {k : Nat} (ho : Onto a.n cl k) {s y : Nat} (hs : ls[rows.length]? = some s) (hr : row.length < 2 ^ a.tr) (hy : a.go s row.length = y) (hyn : y < a.n) {z : Int} (hz : cv nu (cv cl y).toNat = z) (hn : ¬ z < 0) :
  MinI a cl ls rows (row ++ [z]) nu := by
 have hls := H.lt s (List.mem_of_getElem? hs)
 have hb := ho.1 y hyn
 have hk := onto_n ho
 obtain ⟨h1, h2⟩ := MinI.next W hc hs hls hr hy
 rcases H.nu.mem hb.1 (by omega) hz with ⟨h3, _⟩ | ⟨j, rfl, h3⟩
 ·exact absurd h3 hn
 ·exact ⟨H.pr.old hr h1 (by rw [h2]; exact h3), H.nu, H.lt⟩
theorem MinI.whole (H : MinI a cl ls rows row nu) (hr : row.length = 2 ^ a.tr) : MinI a cl ls (rows ++ [row]) [] nu := ⟨H.pr.whole hr, H.nu, H.lt⟩
theorem MinI.in64 (H : MinI a cl ls rows row nu) (W : WFA a) : In64 row := H.pr.in64 (by rw [List.length_map]; have := H.le; have := W.most; omega)
theorem MinI.made (H : MinI a cl ls rows [] nu) (W : WFA a) (hc : ClsOk a cl) (hl : rows.length = ls.length) : MadeA (clGo a cl) (cv cl 0) (clOk a cl) (ls.map (cv cl)) ⟨a.tr, ls.map a.ok, rows⟩ := by
 refine H.pr.made (m := ⟨a.tr, ls.map a.ok, rows⟩) (by rw [List.length_map]; exact hl) ?_ W.tr (by rw [List.length_map]; have := H.le; have := W.most; omega)
 show ls.map a.ok = (ls.map (cv cl)).map (clOk a cl)
 rw [List.map_map]
 exact List.map_congr_left fun s hs => (clOk_at hc (H.lt s hs)).symm
end

theorem min_ev {st : St} (hf : Fresh st) {a : Au} (wf : WFA a) {ka kn : AV} {ls : List (List AV)} (hA : RdR st.h.get [] 1 (bC a.acc) ka) (hN : LsR st.h.get a.nx kn ls) : ∃ v st', Ev Tryz.prog envP 50 [.agg [.int .i64 (((a.tr : Nat) : Int)), ka, kn]] st v st' ∧ ∃ cl l m, ClsOk a cl ∧ m.tr = a.tr ∧ MadeA (clGo a cl) (cv cl 0) (clOk a cl) l m ∧ NewAu st st' m v ∧ Qt st st' := by
 have hac := hA.cell; have hnc := hN.r.cell; have hmo := wf.most; have hps := wf.pos; have hln := wf.len; have hen : a.n = a.acc.length := rfl; have htr := wf.tr; have hp6 := pow_le64 htr; have hp0 : 0 < 2 ^ a.tr := Nat.two_pow_pos _
 have hrep : (List.replicate a.n (0 : Int)).length = a.n := List.length_replicate ..
 have B := MemO.start hf
 refine ev_fn rfl Tryz.func50 rfl Tryz.ntmps50 rfl (by decide) (by simp) fun T hT => ?_
 have K : KnT [(0, _)] T := (.cons (hT 0) .nil)
 have M := B.mem
 refine w_seq <| w_region ?_
 refine wr_box K M rfl (cl_cons rfl (cl_cons hA.cell (cl_cons hN.r.cell cl_nil))) (by decide) fun c1 _ _ K M => ?_
 refine wr_alloc K M ze_api_Auto (by decide) fun c2 _ _ K M => ?_
 refine wr_nil ?_
 show W _ _ _ _ _ _ _
 refine w_seq <| w_region <| o1 K (os_load rfl (M.load (k := 1) rfl (part_agg tk_api_Auto rfl))) rfl fun _ K => ?_
 obtain ⟨v13, st13, ev13, kc, cl, kk, rfl, hcls, hon, nrc, q13⟩ := classes_ev M.fresh wf ((B.step M).rd0 hf hA) (hN.old hf fun c hc => (B.step M).old c hc id)
 refine o1 K (os_call rfl ev13) rfl fun _ K => ?_
 obtain ⟨Ac, hAc, M⟩ := M.callAcc q13 nrc
 replace hAc := hAc.z0
 have hcll := hcls.len; have hkn := onto_n hon
 replace M := Mem.cast (M' := ((c2, 0, [.int .i64 0, .nils, .nils]) :: (c1, 0, [.int .i64 (((a.tr : Nat) : Int)), ka, kn]) :: (Ac ++ []))) M (by first | (simp only [List.append_assoc, List.cons_append, List.nil_append, List.append_nil, List.set_cons_zero, List.set_cons_succ]; done) | (simp only [List.append_assoc, List.cons_append, List.nil_append, List.append_nil, List.set_cons_zero, List.set_cons_succ]; rfl))
 refine o1 K (os_assign rfl) rfl fun _ K => wr_nil ?_
 show W _ _ _ _ _ _ _
 refine w_seq <| w_region <| o1 K (os_fieldAddr fo_api_Auto_0 rfl) rfl fun _ K => o1 K (os_load rfl (M.load (k := 1) rfl (part_one tk_int rfl))) rfl fun _ K => o1 K (os_build st_api_Auto rfl rfl) rfl fun _ K => ?_
 refine wr_alloc K M ze_api_Auto (by decide) fun c4 _ _ K M => ?_
 refine wr_store (k := 0) K M rfl rfl rfl sz_api_Auto rfl rfl rfl fun _ M => ?_
 refine wr_nil ?_
 show W _ _ _ _ _ _ _
 refine w_seq <| w_region <| o1 K (os_fieldAddr fo_api_Auto_1 rfl) rfl fun _ K => o1 K (os_load rfl (M.load (k := 2) rfl (part_one tk_S_bool rfl))) rfl fun _ K => o1 K (os_lenL un_S_bool rfl rfl (hA.len.trans (congrArg some (bC_len _)))) rfl fun _ K => ?_
 refine wr_makeS (fun z => AV.int .i64 z) 0 (n := a.n) K M sl_S_int ze_int rfl (by omega) rfl fun c20 _ _ K M => ?_
 refine o1 K (os_assign rfl) rfl fun _ K => wr_nil ?_
 show W _ _ _ _ _ _ _
 refine w_seq <| w_seq <| w_region <| o1 K (os_assign rfl) rfl fun _ K => wr_nil ?_
 show W _ _ _ _ _ _ _
 refine w_block ?_
 refine w_loop (fun mm1 T st9 => ∃ (i : Nat) (nu : List Int), mm1 = a.n - i ∧ KnT [(1, .ptr c1 0 0), (2, .ptr c2 0 0), (3, v13), (4, .ptr c4 0 0), (5, .sl c20 0 0 a.n 1), (6, .int .i64 (((i : Nat) : Int)))] T ∧ MemO st noX st9 ((c20, 0, (nu.map (fun z => AV.int .i64 z))) :: (c4, 0, [.int .i64 (((a.tr : Nat) : Int)), .nils, .nils]) :: (c2, 0, [.int .i64 0, .nils, .nils]) :: (c1, 0, [.int .i64 (((a.tr : Nat) : Int)), ka, kn]) :: (Ac ++ [])) [] ∧ i ≤ a.n ∧ nu.length = a.n ∧ (∀ s, s < i → cv nu s = -1)) (fun mm1 T st9 hI => ?_) _ _ _ ⟨0, _, rfl, (.cons (K _ _ rfl) (.cons (K _ _ rfl) (.cons (K _ _ rfl) (.cons (K _ _ rfl) (.cons (K _ _ rfl) (.cons (K _ _ rfl) .nil)))))), (B.step M).less (.refl _), (Nat.zero_le _), hrep, (fun s hs => absurd hs (Nat.not_lt_zero s))⟩
 obtain ⟨i, nu, rfl, K, B, hi, hnl, hneg⟩ := hI
 have M := B.mem
 refine w_seq <| w_seq <| w_region <| o1 K (os_move rfl) rfl fun _ K => o1 K (os_move rfl) rfl fun _ K => o1 K (os_lenL un_S_int rfl rfl rfl) rfl fun _ K => o1 K (os_lss rfl rfl) rfl fun _ K => wr_nil ?_
 show W _ _ _ _ _ _ _
 refine w_cond (K.opd rfl) (fun h24 => ?_) (fun h24 => ?_)
 ·have hb24 := h24
  replace h24 := of_decide_eq_true h24
  refine w_skip ?_
  show W _ _ _ _ _ _ _
  refine w_seq <| w_block <| w_region <| o1 K (os_move rfl) rfl fun _ K => o1 K (os_move rfl) rfl fun _ K => ?_
  obtain ⟨y29, hi29⟩ : ∃ x, nu[i]? = some x := ⟨_, List.getElem?_eq_getElem (by omega)⟩
  refine o1 K (os_indexAddr (j := i) el_S_int rfl rfl (by omega)) rfl fun _ K => ?_
  refine wr_store1 (k := 0) K M rfl rfl rfl sz_int rfl (om_set (fun z => AV.int .i64 z) (-1) (by omega)) fun _ M => ?_
  refine wr_nil ?_
  show W _ _ _ _ _ _ _
  refine w_region <| o1 K (os_move rfl) rfl fun _ K => o1 K (os_add rfl rfl (by omega) (by omega)) rfl fun _ K => o1 K (os_assign rfl) rfl fun _ K => wr_nil ?_
  exact ⟨_, (by omega), i + 1, _, rfl, (.cons (K _ _ rfl) (.cons (K _ _ rfl) (.cons (K _ _ rfl) (.cons (K _ _ rfl) (.cons (K _ _ rfl) (.cons (K _ _ rfl) .nil)))))), (B.step M).less (.refl _), (by omega), (by rw [List.length_set]; exact hnl), (fun s hs => by rw [cv_set (by omega)]; split; rfl; exact hneg s (by omega))⟩
 have hb24 := h24
 replace h24 := of_decide_eq_false h24
 refine w_exit ?_
 show W _ _ _ _ _ _ _
 refine w_seq <| w_region ?_
 refine wr_bs K M sl_S_int ze_int rfl rfl rfl rfl rfl fun c30 _ _ K M => ?_
 refine o1 K (os_assign rfl) rfl fun _ K => wr_nil ?_
 show W _ _ _ _ _ _ _
 refine w_seq <| w_region <| o1 K (os_move rfl) rfl fun _ K => o1 K (os_move rfl) rfl fun _ K => ?_
 obtain ⟨y33, hi33⟩ : ∃ x, cl[0]? = some x := ⟨_, List.getElem?_eq_getElem (by omega)⟩
 have hb33 := hon.1 0 (by omega)
 have hcv33 := cv_at hi33
 rw [hcv33] at hb33
 obtain ⟨x33, m33, f33, q33, _, la33, lo33, lp33⟩ := (Mem.accR (L := [(c30, 0, [.int .i64 0]), (c20, 0, (nu.map (fun z => AV.int .i64 z))), (c4, 0, [.int .i64 (((a.tr : Nat) : Int)), .nils, .nils]), (c2, 0, [.int .i64 0, .nils, .nils]), (c1, 0, [.int .i64 (((a.tr : Nat) : Int)), ka, kn])]) (A := Ac) (B := []) M hAc).load (i := 0) (cs := _) (zC_get hi33)
 refine o1 K (os_indexAddr (j := 0) el_S_int (congrArg some q33) rfl (by rw [zC_len]; omega)) rfl fun _ K => o1 K (os_load rfl (lo33 _ 0 _ tk_int rfl)) rfl fun _ K => ?_
 obtain ⟨y35, hi35⟩ : ∃ x, nu[(y33).toNat]? = some x := ⟨_, List.getElem?_eq_getElem (by omega)⟩
 refine o1 K (os_indexAddr (j := (y33).toNat) el_S_int rfl (congrArg (fun z => some (AV.int .i64 z)) (by omega : _ = (((y33).toNat : Nat) : Int))) (by omega)) rfl fun _ K => ?_
 refine wr_store1 (k := 1) K M rfl rfl rfl sz_int rfl (om_set (fun z => AV.int .i64 z) 0 (by omega)) fun _ M => ?_
 refine wr_nil ?_
 show W _ _ _ _ _ _ _
 refine w_seq <| w_seq ?_
 replace M := Mem.cast (M' := ((c20, 0, ((nu.set ((y33).toNat) 0).map (fun z => AV.int .i64 z))) :: (c4, 0, [.int .i64 (((a.tr : Nat) : Int)), .nils, .nils]) :: (c2, 0, [.int .i64 0, .nils, .nils]) :: (c1, 0, [.int .i64 (((a.tr : Nat) : Int)), ka, kn]) :: (Ac ++ ([(c30, 0, [.int .i64 0])] ++ [])))) (Mem.perm M (List.perm_append_comm (α := Nat × Nat × List AV) (l₁ := [(c30, 0, [.int .i64 0])]) (l₂ := ((c20, 0, ((nu.set ((y33).toNat) 0).map (fun z => AV.int .i64 z))) :: (c4, 0, [.int .i64 (((a.tr : Nat) : Int)), .nils, .nils]) :: (c2, 0, [.int .i64 0, .nils, .nils]) :: (c1, 0, [.int .i64 (((a.tr : Nat) : Int)), ka, kn]) :: (Ac ++ []))))) (by first | (simp only [List.append_assoc, List.cons_append, List.nil_append, List.append_nil, List.set_cons_zero, List.set_cons_succ]; done) | (simp only [List.append_assoc, List.cons_append, List.nil_append, List.append_nil, List.set_cons_zero, List.set_cons_succ]; rfl))
 have hAL0 : Acc 0 1 [(c30, 0, [.int .i64 0])] (.sl c30 0 0 1 1) [[.int .i64 0]] := Acc.own (n0 := 0) (z := 1) (c := c30) (m := 0) (ls := [[.int .i64 0]]) (Nat.zero_le _) (by simp) (by simp)
 replace B := (B.step M).noRows
 have M := B.mem
 refine w_region <| o1 K (os_assign rfl) rfl fun _ K => wr_nil ?_
 show W _ _ _ _ _ _ _
 refine w_block ?_
 refine w_loop (fun mm2 T st9 => ∃ (i : Nat) (ls : List Nat) (kl : AV) (Al : Rows2) (rows : List (List Int)) (vs : List AV) (F : Fp) (ka4 : AV) (Aa : Rows2) (kr4 : AV) (Ar : Rows2) (nu : List Int), mm2 = a.n - i ∧ KnT [(1, .ptr c1 0 0), (2, .ptr c2 0 0), (3, v13), (4, .ptr c4 0 0), (5, .sl c20 0 0 a.n 1), (7, kl), (8, .int .i64 (((i : Nat) : Int)))] T ∧ MemO st noX st9 ((c20, 0, (nu.map (fun z => AV.int .i64 z))) :: (c4, 0, [.int .i64 (((a.tr : Nat) : Int)), ka4, kr4]) :: (c2, 0, [.int .i64 0, .nils, .nils]) :: (c1, 0, [.int .i64 (((a.tr : Nat) : Int)), ka, kn]) :: (Ac ++ (Al ++ (Aa ++ (Ar ++ []))))) [vsO F vs rows] ∧ MinI a cl ls rows [] nu ∧ rows.length = i ∧ i ≤ ls.length ∧ Acc 0 1 Al kl (zC (zN ls)) ∧ Acc 0 1 Aa ka4 (bC ((ls.take i).map a.ok)) ∧ AccX Ar kr4 vs) (fun mm2 T st9 hI => ?_) _ _ _ ⟨0, [0], (.sl c30 0 0 1 1), [(c30, 0, [.int .i64 0])], [], [], _, .nils, [], .nils, [], _, rfl, (.cons (K _ _ rfl) (.cons (K _ _ rfl) (.cons (K _ _ rfl) (.cons (K _ _ rfl) (.cons (K _ _ rfl) (.cons (K _ _ rfl) (.cons (K _ _ rfl) .nil))))))), (B.step M).less (.refl _), (by rw [← hcv33]; exact MinI.start wf hon hnl (fun s hs => hneg s (by omega))), rfl, (Nat.zero_le _), hAL0, .none, .none⟩
 obtain ⟨i, ls, kl, Al, rows, vs, F, ka4, Aa, kr4, Ar, nu, rfl, K, B, hm, hrl, hil, hAl, hAa, hAr⟩ := hI
 have M := B.mem
 have hlsn := hm.le; have hnul := hm.nu.len
 refine w_seq <| w_seq <| w_region <| o1 K (os_move rfl) rfl fun _ K => o1 K (os_move rfl) rfl fun _ K => o1 K (os_lenL un_S_int rfl rfl (hAl.len.trans (congrArg some (by rw [zC_len, List.length_map])))) rfl fun _ K => o1 K (os_lss rfl rfl) rfl fun _ K => wr_nil ?_
 show W _ _ _ _ _ _ _
 refine w_cond (K.opd rfl) (fun h39 => ?_) (fun h39 => ?_)
 ·have hb39 := h39
  replace h39 := of_decide_eq_true h39
  refine w_skip ?_
  show W _ _ _ _ _ _ _
  refine w_seq <| w_block <| w_seq <| w_region <| o1 K (os_assign rfl) rfl fun _ K => wr_nil ?_
  show W _ _ _ _ _ _ _
  refine w_seq <| w_seq <| w_region <| o1 K (os_assign rfl) rfl fun _ K => wr_nil ?_
  show W _ _ _ _ _ _ _
  refine w_block ?_
  refine w_loop (fun mm3 T st9 => ∃ (c : Nat) (ls2 : List Nat) (kl2 : AV) (Al2 : Rows2) (row : List Int) (kw : AV) (Aw : Rows2) (nu2 : List Int), mm3 = 2 ^ a.tr - c ∧ KnT [(1, .ptr c1 0 0), (2, .ptr c2 0 0), (3, v13), (4, .ptr c4 0 0), (5, .sl c20 0 0 a.n 1), (7, kl2), (8, .int .i64 (((i : Nat) : Int))), (9, kw), (10, .int .i64 (((c : Nat) : Int))), (39, .bool (decide (((i : Nat) : Int) < ((ls.length : Nat) : Int))))] T ∧ MemO st noX st9 ((c20, 0, (nu2.map (fun z => AV.int .i64 z))) :: (c4, 0, [.int .i64 (((a.tr : Nat) : Int)), ka4, kr4]) :: (c2, 0, [.int .i64 0, .nils, .nils]) :: (c1, 0, [.int .i64 (((a.tr : Nat) : Int)), ka, kn]) :: (Ac ++ (Al2 ++ (Aa ++ (Ar ++ (Aw ++ [])))))) [vsO F vs rows] ∧ MinI a cl ls2 rows row nu2 ∧ row.length = c ∧ c ≤ 2 ^ a.tr ∧ ls2.take (i + 1) = ls.take (i + 1) ∧ Acc 0 1 Al2 kl2 (zC (zN ls2)) ∧ Acc 0 1 Aw kw (zC row)) (fun mm3 T st9 hI => ?_) _ _ _ ⟨0, ls, kl, Al, [], .nils, [], nu, rfl, (.cons (K _ _ rfl) (.cons (K _ _ rfl) (.cons (K _ _ rfl) (.cons (K _ _ rfl) (.cons (K _ _ rfl) (.cons (K _ _ rfl) (.cons (K _ _ rfl) (.cons (K _ _ rfl) (.cons (K _ _ rfl) (.cons (K _ _ rfl) .nil)))))))))), (B.step M).less (.refl _), hm, rfl, (Nat.zero_le _), rfl, hAl, .none⟩
  obtain ⟨c, ls2, kl2, Al2, row, kw, Aw, nu2, rfl, K, B, hm2, hrow, hcK, htk, hAl2, hAw⟩ := hI
  have M := B.mem
  have hls2 := hm2.le; have hnul2 := hm2.nu.len; have hi2 := take_same htk (by omega)
  refine w_seq <| w_seq ?_
  refine w_drawI (l := [(0, 0), (1, 0), (2, 0), (3, 0), (4, 0), (5, 0), (6, 0), (7, 0), (8, 0), (9, 0), (10, 0)]) (by kernel_rfl) ?_
  refine d1 rfl K (os_move rfl) rfl rfl fun _ K => d1 rfl K (os_fieldAddr fo_api_Auto_2 rfl) rfl rfl fun _ K => d1 rfl K (os_load rfl (M.load (k := 3) rfl (part_one tk_S_S_int rfl))) rfl rfl fun _ K => d1 rfl K (os_move rfl) rfl rfl fun _ K => d1 rfl K (os_move rfl) rfl rfl fun _ K => ?_
  obtain ⟨y47, hi47⟩ : ∃ x, ls2[i]? = some x := ⟨_, List.getElem?_eq_getElem (by omega)⟩
  have hls47 := hm2.lt y47 (List.mem_of_getElem? hi47)
  obtain ⟨x47, m47, f47, q47, _, la47, lo47, lp47⟩ := (Mem.accR (L := ((c20, 0, (nu2.map (fun z => AV.int .i64 z))) :: (c4, 0, [.int .i64 (((a.tr : Nat) : Int)), ka4, kr4]) :: (c2, 0, [.int .i64 0, .nils, .nils]) :: (c1, 0, [.int .i64 (((a.tr : Nat) : Int)), ka, kn]) :: (Ac ++ []))) (A := Al2) (B := (Aa ++ (Ar ++ (Aw ++ [])))) (Mem.cast (M := ((c20, 0, (nu2.map (fun z => AV.int .i64 z))) :: (c4, 0, [.int .i64 (((a.tr : Nat) : Int)), ka4, kr4]) :: (c2, 0, [.int .i64 0, .nils, .nils]) :: (c1, 0, [.int .i64 (((a.tr : Nat) : Int)), ka, kn]) :: (Ac ++ (Al2 ++ (Aa ++ (Ar ++ (Aw ++ []))))))) (M' := ((c20, 0, (nu2.map (fun z => AV.int .i64 z))) :: (c4, 0, [.int .i64 (((a.tr : Nat) : Int)), ka4, kr4]) :: (c2, 0, [.int .i64 0, .nils, .nils]) :: (c1, 0, [.int .i64 (((a.tr : Nat) : Int)), ka, kn]) :: (Ac ++ [])) ++ (Al2 ++ (Aa ++ (Ar ++ (Aw ++ []))))) M (by first | (simp only [List.append_assoc, List.cons_append, List.nil_append, List.append_nil, List.set_cons_zero, List.set_cons_succ]; done) | (simp only [List.append_assoc, List.cons_append, List.nil_append, List.append_nil, List.set_cons_zero, List.set_cons_succ]; rfl))) hAl2).load (i := i) (cs := _) (zN_get hi47)
  refine d1 rfl K (os_indexAddr (j := i) el_S_int (congrArg some q47) rfl (by rw [zC_len, List.length_map]; omega)) rfl rfl fun _ K => d1 rfl K (os_load rfl (lo47 _ 0 _ tk_int rfl)) rfl rfl fun _ K => ?_
  obtain ⟨s49, hi49⟩ : ∃ x, a.nx[y47]? = some x := ⟨_, List.getElem?_eq_getElem (by omega)⟩
  obtain ⟨_, hc49, w49, rfl, hr49, hz49⟩ := hN.at_ _ _ hi49
  have hw49 := wf.row s49 (List.mem_of_getElem? hi49)
  have hl49 : s49.length = 2 ^ a.tr := hw49.1
  obtain ⟨x49, m49, f49, q49, _, la49, lo49, lp49⟩ := (RowsZ.r (hN.old hf fun c hc => (B.step M).old c hc id)).load (i := y47) (cs := _) hc49
  refine d1 rfl K (os_indexAddr (j := y47) el_S_S_int (congrArg some q49) rfl (by rw [hN.ln]; omega)) rfl rfl fun _ K => d1 rfl K (os_load rfl (lo49 _ 0 _ tk_S_int rfl)) rfl rfl fun _ K => d1 rfl K (os_lenL un_S_int rfl rfl (hr49.len.trans (congrArg some (zC_len _)))) rfl rfl fun _ K => d1 rfl K (os_lss rfl rfl) rfl rfl fun _ K => wd_nil ?_
  show W _ _ _ _ _ _ _
  refine w_cond (K.opd rfl) (fun h52 => ?_) (fun h52 => ?_)
  ·have hb52 := h52
   replace h52 := of_decide_eq_true h52
   refine w_skip ?_
   show W _ _ _ _ _ _ _
   refine w_seq <| w_block <| w_seq ?_
   refine w_drawI (l := [(0, 0), (1, 0), (2, 0), (3, 0), (4, 0), (5, 0), (6, 0), (7, 0), (8, 0), (9, 0), (10, 0), (11, 0)]) (by kernel_rfl) ?_
   refine d1 rfl K (os_fieldAddr fo_api_Auto_2 rfl) rfl rfl fun _ K => d1 rfl K (os_load rfl (M.load (k := 3) rfl (part_one tk_S_S_int rfl))) rfl rfl fun _ K => d1 rfl K (os_move rfl) rfl rfl fun _ K => d1 rfl K (os_move rfl) rfl rfl fun _ K => ?_
   obtain ⟨x59, m59, f59, q59, _, la59, lo59, lp59⟩ := (Mem.accR (L := ((c20, 0, (nu2.map (fun z => AV.int .i64 z))) :: (c4, 0, [.int .i64 (((a.tr : Nat) : Int)), ka4, kr4]) :: (c2, 0, [.int .i64 0, .nils, .nils]) :: (c1, 0, [.int .i64 (((a.tr : Nat) : Int)), ka, kn]) :: (Ac ++ []))) (A := Al2) (B := (Aa ++ (Ar ++ (Aw ++ [])))) (Mem.cast (M := ((c20, 0, (nu2.map (fun z => AV.int .i64 z))) :: (c4, 0, [.int .i64 (((a.tr : Nat) : Int)), ka4, kr4]) :: (c2, 0, [.int .i64 0, .nils, .nils]) :: (c1, 0, [.int .i64 (((a.tr : Nat) : Int)), ka, kn]) :: (Ac ++ (Al2 ++ (Aa ++ (Ar ++ (Aw ++ []))))))) (M' := ((c20, 0, (nu2.map (fun z => AV.int .i64 z))) :: (c4, 0, [.int .i64 (((a.tr : Nat) : Int)), ka4, kr4]) :: (c2, 0, [.int .i64 0, .nils, .nils]) :: (c1, 0, [.int .i64 (((a.tr : Nat) : Int)), ka, kn]) :: (Ac ++ [])) ++ (Al2 ++ (Aa ++ (Ar ++ (Aw ++ []))))) M (by first | (simp only [List.append_assoc, List.cons_append, List.nil_append, List.append_nil, List.set_cons_zero, List.set_cons_succ]; done) | (simp only [List.append_assoc, List.cons_append, List.nil_append, List.append_nil, List.set_cons_zero, List.set_cons_succ]; rfl))) hAl2).load (i := i) (cs := _) (zN_get hi47)
   refine d1 rfl K (os_indexAddr (j := i) el_S_int (congrArg some q59) rfl (by rw [zC_len, List.length_map]; omega)) rfl rfl fun _ K => d1 rfl K (os_load rfl (lo59 _ 0 _ tk_int rfl)) rfl rfl fun _ K => ?_
   obtain ⟨_, hc61, w61, rfl, hr61, hz61⟩ := hN.at_ _ _ hi49
   obtain ⟨x61, m61, f61, q61, _, la61, lo61, lp61⟩ := (RowsZ.r (hN.old hf fun c hc => (B.step M).old c hc id)).load (i := y47) (cs := _) hc61
   refine d1 rfl K (os_indexAddr (j := y47) el_S_S_int (congrArg some q61) rfl (by rw [hN.ln]; omega)) rfl rfl fun _ K => d1 rfl K (os_load rfl (lo61 _ 0 _ tk_S_int rfl)) rfl rfl fun _ K => d1 rfl K (os_move rfl) rfl rfl fun _ K => ?_
   obtain ⟨y64, hi64⟩ : ∃ x, s49[c]? = some x := ⟨_, List.getElem?_eq_getElem (by omega)⟩
   have hb64 := hw49.2 y64 (List.mem_of_getElem? hi64)
   obtain ⟨x64, m64, f64, q64, _, la64, lo64, lp64⟩ := ((B.step M).rd0 hf hr61).load (i := c) (cs := _) (zC_get hi64)
   refine d1 rfl K (os_indexAddr (j := c) el_S_int (congrArg some q64) rfl (by rw [zC_len]; omega)) rfl rfl fun _ K => d1 rfl K (os_load rfl (lo64 _ 0 _ tk_int rfl)) rfl rfl fun _ K => d1 rfl K (os_assign rfl) rfl rfl fun _ K => wd_nil ?_
   show W _ _ _ _ _ _ _
   refine w_seq <| w_seq <| w_region <| o1 K (os_move rfl) rfl fun _ K => o1 K (os_move rfl) rfl fun _ K => o1 K (os_move rfl) rfl fun _ K => ?_
   obtain ⟨y69, hi69⟩ : ∃ x, cl[(y64).toNat]? = some x := ⟨_, List.getElem?_eq_getElem (by omega)⟩
   have hb69 := hon.1 (y64).toNat (by omega)
   have hcv69 := cv_at hi69
   rw [hcv69] at hb69
   obtain ⟨x69, m69, f69, q69, _, la69, lo69, lp69⟩ := (Mem.accR (L := [(c20, 0, (nu2.map (fun z => AV.int .i64 z))), (c4, 0, [.int .i64 (((a.tr : Nat) : Int)), ka4, kr4]), (c2, 0, [.int .i64 0, .nils, .nils]), (c1, 0, [.int .i64 (((a.tr : Nat) : Int)), ka, kn])]) (A := Ac) (B := (Al2 ++ (Aa ++ (Ar ++ (Aw ++ []))))) M hAc).load (i := (y64).toNat) (cs := _) (zC_get hi69)
   refine o1 K (os_indexAddr (j := (y64).toNat) el_S_int (congrArg some q69) (congrArg (fun z => some (AV.int .i64 z)) (by omega : _ = (((y64).toNat : Nat) : Int))) (by rw [zC_len]; omega)) rfl fun _ K => o1 K (os_load rfl (lo69 _ 0 _ tk_int rfl)) rfl fun _ K => ?_
   obtain ⟨y71, hi71⟩ : ∃ x, nu2[(y69).toNat]? = some x := ⟨_, List.getElem?_eq_getElem (by omega)⟩
   refine o1 K (os_indexAddr (j := (y69).toNat) el_S_int rfl (congrArg (fun z => some (AV.int .i64 z)) (by omega : _ = (((y69).toNat : Nat) : Int))) (by omega)) rfl fun _ K => o1 K (os_load rfl (M.load (k := 0) rfl (part_one tk_int (om_get (fun z => AV.int .i64 z) hi71)))) rfl fun _ K => o1 K (os_lss rfl rfl) rfl fun _ K => wr_nil ?_
   show W _ _ _ _ _ _ _
   refine w_cond (K.opd rfl) (fun h73 => ?_) (fun h73 => ?_)
   ·have hb73 := h73
    replace h73 := of_decide_eq_true h73
    refine w_seq <| w_region <| o1 K (os_move rfl) rfl fun _ K => o1 K (os_move rfl) rfl fun _ K => o1 K (os_move rfl) rfl fun _ K => ?_
    obtain ⟨x77, m77, f77, q77, _, la77, lo77, lp77⟩ := (Mem.accR (L := [(c20, 0, (nu2.map (fun z => AV.int .i64 z))), (c4, 0, [.int .i64 (((a.tr : Nat) : Int)), ka4, kr4]), (c2, 0, [.int .i64 0, .nils, .nils]), (c1, 0, [.int .i64 (((a.tr : Nat) : Int)), ka, kn])]) (A := Ac) (B := (Al2 ++ (Aa ++ (Ar ++ (Aw ++ []))))) M hAc).load (i := (y64).toNat) (cs := _) (zC_get hi69)
    refine o1 K (os_indexAddr (j := (y64).toNat) el_S_int (congrArg some q77) (congrArg (fun z => some (AV.int .i64 z)) (by omega : _ = (((y64).toNat : Nat) : Int))) (by rw [zC_len]; omega)) rfl fun _ K => o1 K (os_load rfl (lo77 _ 0 _ tk_int rfl)) rfl fun _ K => o1 K (os_move rfl) rfl fun _ K => o1 K (os_lenL un_S_int rfl rfl (hAl2.len.trans (congrArg some (by rw [zC_len, List.length_map])))) rfl fun _ K => ?_
    obtain ⟨y81, hi81⟩ : ∃ x, nu2[(y69).toNat]? = some x := ⟨_, List.getElem?_eq_getElem (by omega)⟩
    refine o1 K (os_indexAddr (j := (y69).toNat) el_S_int rfl (congrArg (fun z => some (AV.int .i64 z)) (by omega : _ = (((y69).toNat : Nat) : Int))) (by omega)) rfl fun _ K => ?_
    refine wr_store1 (k := 0) K M rfl rfl rfl sz_int rfl (om_set (fun z => AV.int .i64 z) (((ls2.length : Nat) : Int)) (by omega)) fun _ M => ?_
    refine wr_nil ?_
    show W _ _ _ _ _ _ _
    refine w_region <| o1 K (os_move rfl) rfl fun _ K => o1 K (os_move rfl) rfl fun _ K => ?_
    refine wr_bs K M sl_S_int ze_int rfl rfl rfl rfl rfl fun c84 _ _ K M => ?_
    refine wr_acc00 (k2 := 0) (L := ((c84, 0, [.int .i64 y64]) :: (c20, 0, ((nu2.set ((y69).toNat) (((ls2.length : Nat) : Int))).map (fun z => AV.int .i64 z))) :: (c4, 0, [.int .i64 (((a.tr : Nat) : Int)), ka4, kr4]) :: (c2, 0, [.int .i64 0, .nils, .nils]) :: (c1, 0, [.int .i64 (((a.tr : Nat) : Int)), ka, kn]) :: (Ac ++ []))) (A := Al2) (B := (Aa ++ (Ar ++ (Aw ++ [])))) K (Mem.cast (M := ((c84, 0, [.int .i64 y64]) :: (c20, 0, ((nu2.set ((y69).toNat) (((ls2.length : Nat) : Int))).map (fun z => AV.int .i64 z))) :: (c4, 0, [.int .i64 (((a.tr : Nat) : Int)), ka4, kr4]) :: (c2, 0, [.int .i64 0, .nils, .nils]) :: (c1, 0, [.int .i64 (((a.tr : Nat) : Int)), ka, kn]) :: (Ac ++ (Al2 ++ (Aa ++ (Ar ++ (Aw ++ []))))))) (M' := ((c84, 0, [.int .i64 y64]) :: (c20, 0, ((nu2.set ((y69).toNat) (((ls2.length : Nat) : Int))).map (fun z => AV.int .i64 z))) :: (c4, 0, [.int .i64 (((a.tr : Nat) : Int)), ka4, kr4]) :: (c2, 0, [.int .i64 0, .nils, .nils]) :: (c1, 0, [.int .i64 (((a.tr : Nat) : Int)), ka, kn]) :: (Ac ++ [])) ++ (Al2 ++ (Aa ++ (Ar ++ (Aw ++ []))))) M (by first | (simp only [List.append_assoc, List.cons_append, List.nil_append, List.append_nil, List.set_cons_zero, List.set_cons_succ]; done) | (simp only [List.append_assoc, List.cons_append, List.nil_append, List.append_nil, List.set_cons_zero, List.set_cons_succ]; rfl))) hAl2 sl_S_int rfl rfl rfl rfl (by simp only [zC_len, zN, List.length_map]; have := hm2.le; omega) rfl fun ks85 A85 _ _ K hA85 M => ?_
    replace M := Mem.cast (M := ((c84, 0, [.int .i64 y64]) :: (c20, 0, ((nu2.set ((y69).toNat) (((ls2.length : Nat) : Int))).map (fun z => AV.int .i64 z))) :: (c4, 0, [.int .i64 (((a.tr : Nat) : Int)), ka4, kr4]) :: (c2, 0, [.int .i64 0, .nils, .nils]) :: (c1, 0, [.int .i64 (((a.tr : Nat) : Int)), ka, kn]) :: (Ac ++ [])) ++ (A85 ++ (Aa ++ (Ar ++ (Aw ++ []))))) (M' := ((c84, 0, [.int .i64 y64]) :: (c20, 0, ((nu2.set ((y69).toNat) (((ls2.length : Nat) : Int))).map (fun z => AV.int .i64 z))) :: (c4, 0, [.int .i64 (((a.tr : Nat) : Int)), ka4, kr4]) :: (c2, 0, [.int .i64 0, .nils, .nils]) :: (c1, 0, [.int .i64 (((a.tr : Nat) : Int)), ka, kn]) :: (Ac ++ (A85 ++ (Aa ++ (Ar ++ (Aw ++ []))))))) M (by first | (simp only [List.append_assoc, List.cons_append, List.nil_append, List.append_nil, List.set_cons_zero, List.set_cons_succ]; done) | (simp only [List.append_assoc, List.cons_append, List.nil_append, List.append_nil, List.set_cons_zero, List.set_cons_succ]; rfl))
    refine o1 K (os_assign rfl) rfl fun _ K => wr_nil ?_
    show W _ _ _ _ _ _ _
    refine w_region <| o1 K (os_move rfl) rfl fun _ K => o1 K (os_move rfl) rfl fun _ K => o1 K (os_move rfl) rfl fun _ K => o1 K (os_move rfl) rfl fun _ K => ?_
    obtain ⟨x90, m90, f90, q90, _, la90, lo90, lp90⟩ := (Mem.accR (L := [(c84, 0, [.int .i64 y64]), (c20, 0, ((nu2.set ((y69).toNat) (((ls2.length : Nat) : Int))).map (fun z => AV.int .i64 z))), (c4, 0, [.int .i64 (((a.tr : Nat) : Int)), ka4, kr4]), (c2, 0, [.int .i64 0, .nils, .nils]), (c1, 0, [.int .i64 (((a.tr : Nat) : Int)), ka, kn])]) (A := Ac) (B := (A85 ++ (Aa ++ (Ar ++ (Aw ++ []))))) M hAc).load (i := (y64).toNat) (cs := _) (zC_get hi69)
    refine o1 K (os_indexAddr (j := (y64).toNat) el_S_int (congrArg some q90) (congrArg (fun z => some (AV.int .i64 z)) (by omega : _ = (((y64).toNat : Nat) : Int))) (by rw [zC_len]; omega)) rfl fun _ K => o1 K (os_load rfl (lo90 _ 0 _ tk_int rfl)) rfl fun _ K => ?_
    obtain ⟨y92, hi92⟩ : ∃ x, (nu2.set ((y69).toNat) (((ls2.length : Nat) : Int)))[(y69).toNat]? = some x := ⟨_, List.getElem?_eq_getElem (by simp only [List.length_set]; omega)⟩
    refine o1 K (os_indexAddr (j := (y69).toNat) el_S_int rfl (congrArg (fun z => some (AV.int .i64 z)) (by omega : _ = (((y69).toNat : Nat) : Int))) (by omega)) rfl fun _ K => o1 K (os_load rfl (M.load (k := 1) rfl (part_one tk_int (om_get (fun z => AV.int .i64 z) hi92)))) rfl fun _ K => ?_
    refine wr_bs K M sl_S_int ze_int rfl rfl rfl rfl rfl fun c94 _ _ K M => ?_
    refine wr_acc00 (k2 := 0) (L := ((c94, 0, [.int .i64 y92]) :: (c84, 0, [.int .i64 y64]) :: (c20, 0, ((nu2.set ((y69).toNat) (((ls2.length : Nat) : Int))).map (fun z => AV.int .i64 z))) :: (c4, 0, [.int .i64 (((a.tr : Nat) : Int)), ka4, kr4]) :: (c2, 0, [.int .i64 0, .nils, .nils]) :: (c1, 0, [.int .i64 (((a.tr : Nat) : Int)), ka, kn]) :: (Ac ++ (A85 ++ (Aa ++ (Ar ++ [])))))) (A := Aw) (B := []) K (Mem.cast (M := ((c94, 0, [.int .i64 y92]) :: (c84, 0, [.int .i64 y64]) :: (c20, 0, ((nu2.set ((y69).toNat) (((ls2.length : Nat) : Int))).map (fun z => AV.int .i64 z))) :: (c4, 0, [.int .i64 (((a.tr : Nat) : Int)), ka4, kr4]) :: (c2, 0, [.int .i64 0, .nils, .nils]) :: (c1, 0, [.int .i64 (((a.tr : Nat) : Int)), ka, kn]) :: (Ac ++ (A85 ++ (Aa ++ (Ar ++ (Aw ++ []))))))) (M' := ((c94, 0, [.int .i64 y92]) :: (c84, 0, [.int .i64 y64]) :: (c20, 0, ((nu2.set ((y69).toNat) (((ls2.length : Nat) : Int))).map (fun z => AV.int .i64 z))) :: (c4, 0, [.int .i64 (((a.tr : Nat) : Int)), ka4, kr4]) :: (c2, 0, [.int .i64 0, .nils, .nils]) :: (c1, 0, [.int .i64 (((a.tr : Nat) : Int)), ka, kn]) :: (Ac ++ (A85 ++ (Aa ++ (Ar ++ []))))) ++ (Aw ++ [])) M (by first | (simp only [List.append_assoc, List.cons_append, List.nil_append, List.append_nil, List.set_cons_zero, List.set_cons_succ]; done) | (simp only [List.append_assoc, List.cons_append, List.nil_append, List.append_nil, List.set_cons_zero, List.set_cons_succ]; rfl))) hAw sl_S_int rfl rfl rfl rfl (by rw [zC_len]; omega) rfl fun ks95 A95 _ _ K hA95 M => ?_
    replace M := Mem.cast (M := ((c94, 0, [.int .i64 y92]) :: (c84, 0, [.int .i64 y64]) :: (c20, 0, ((nu2.set ((y69).toNat) (((ls2.length : Nat) : Int))).map (fun z => AV.int .i64 z))) :: (c4, 0, [.int .i64 (((a.tr : Nat) : Int)), ka4, kr4]) :: (c2, 0, [.int .i64 0, .nils, .nils]) :: (c1, 0, [.int .i64 (((a.tr : Nat) : Int)), ka, kn]) :: (Ac ++ (A85 ++ (Aa ++ (Ar ++ []))))) ++ (A95 ++ [])) (M' := ((c94, 0, [.int .i64 y92]) :: (c84, 0, [.int .i64 y64]) :: (c20, 0, ((nu2.set ((y69).toNat) (((ls2.length : Nat) : Int))).map (fun z => AV.int .i64 z))) :: (c4, 0, [.int .i64 (((a.tr : Nat) : Int)), ka4, kr4]) :: (c2, 0, [.int .i64 0, .nils, .nils]) :: (c1, 0, [.int .i64 (((a.tr : Nat) : Int)), ka, kn]) :: (Ac ++ (A85 ++ (Aa ++ (Ar ++ (A95 ++ []))))))) M (by first | (simp only [List.append_assoc, List.cons_append, List.nil_append, List.append_nil, List.set_cons_zero, List.set_cons_succ]; done) | (simp only [List.append_assoc, List.cons_append, List.nil_append, List.append_nil, List.set_cons_zero, List.set_cons_succ]; rfl))
    refine o1 K (os_assign rfl) rfl fun _ K => wr_nil ?_
    show W _ _ _ _ _ _ _
    refine w_region <| o1 K (os_move rfl) rfl fun _ K => o1 K (os_add rfl rfl (by omega) (by omega)) rfl fun _ K => o1 K (os_assign rfl) rfl fun _ K => wr_nil ?_
    have e92 : y92 = ((ls2.length : Nat) : Int) := by have := cv_at hi92; rw [cv_set (by omega), if_pos rfl] at this; exact this.symm
    have hm3 := hm2.new wf hcls hon (s := y47) (y := (y64).toNat) (by rw [hrl]; exact hi47) (by omega) (by rw [hrow]; exact go_row hi49 hi64) (by omega) (by rw [hcv69, cv_at hi71]; exact h73)
    rw [hcv69] at hm3
    exact ⟨_, (by omega), c + 1, (ls2 ++ [(y64).toNat]), ks85, A85, (row ++ [y92]), ks95, A95, _, rfl, (.cons (K _ _ rfl) (.cons (K _ _ rfl) (.cons (K _ _ rfl) (.cons (K _ _ rfl) (.cons (K _ _ rfl) (.cons (K _ _ rfl) (.cons (K _ _ rfl) (.cons (K _ _ rfl) (.cons (K _ _ rfl) (.cons (K _ _ rfl) .nil)))))))))), (B.step M).less (.cons _ (.cons _ (.refl _))), (by rw [e92]; exact hm3), (by rw [List.length_append, hrow]; rfl), (by omega), (by rw [List.take_append_of_le_length hi2, htk]), (by rw [zN_snoc, zC_app, Int.toNat_of_nonneg hb64.1]; exact hA85), (by rw [zC_app]; exact hA95)⟩
   have hb73 := h73
   replace h73 := of_decide_eq_false h73
   refine w_skip ?_
   show W _ _ _ _ _ _ _
   refine w_region <| o1 K (os_move rfl) rfl fun _ K => o1 K (os_move rfl) rfl fun _ K => o1 K (os_move rfl) rfl fun _ K => o1 K (os_move rfl) rfl fun _ K => ?_
   obtain ⟨x90, m90, f90, q90, _, la90, lo90, lp90⟩ := (Mem.accR (L := [(c20, 0, (nu2.map (fun z => AV.int .i64 z))), (c4, 0, [.int .i64 (((a.tr : Nat) : Int)), ka4, kr4]), (c2, 0, [.int .i64 0, .nils, .nils]), (c1, 0, [.int .i64 (((a.tr : Nat) : Int)), ka, kn])]) (A := Ac) (B := (Al2 ++ (Aa ++ (Ar ++ (Aw ++ []))))) M hAc).load (i := (y64).toNat) (cs := _) (zC_get hi69)
   refine o1 K (os_indexAddr (j := (y64).toNat) el_S_int (congrArg some q90) (congrArg (fun z => some (AV.int .i64 z)) (by omega : _ = (((y64).toNat : Nat) : Int))) (by rw [zC_len]; omega)) rfl fun _ K => o1 K (os_load rfl (lo90 _ 0 _ tk_int rfl)) rfl fun _ K => ?_
   obtain ⟨y92, hi92⟩ : ∃ x, nu2[(y69).toNat]? = some x := ⟨_, List.getElem?_eq_getElem (by omega)⟩
   refine o1 K (os_indexAddr (j := (y69).toNat) el_S_int rfl (congrArg (fun z => some (AV.int .i64 z)) (by omega : _ = (((y69).toNat : Nat) : Int))) (by omega)) rfl fun _ K => o1 K (os_load rfl (M.load (k := 0) rfl (part_one tk_int (om_get (fun z => AV.int .i64 z) hi92)))) rfl fun _ K => ?_
   refine wr_bs K M sl_S_int ze_int rfl rfl rfl rfl rfl fun c94 _ _ K M => ?_
   refine wr_acc00 (k2 := 0) (L := ((c94, 0, [.int .i64 y92]) :: (c20, 0, (nu2.map (fun z => AV.int .i64 z))) :: (c4, 0, [.int .i64 (((a.tr : Nat) : Int)), ka4, kr4]) :: (c2, 0, [.int .i64 0, .nils, .nils]) :: (c1, 0, [.int .i64 (((a.tr : Nat) : Int)), ka, kn]) :: (Ac ++ (Al2 ++ (Aa ++ (Ar ++ [])))))) (A := Aw) (B := []) K (Mem.cast (M := ((c94, 0, [.int .i64 y92]) :: (c20, 0, (nu2.map (fun z => AV.int .i64 z))) :: (c4, 0, [.int .i64 (((a.tr : Nat) : Int)), ka4, kr4]) :: (c2, 0, [.int .i64 0, .nils, .nils]) :: (c1, 0, [.int .i64 (((a.tr : Nat) : Int)), ka, kn]) :: (Ac ++ (Al2 ++ (Aa ++ (Ar ++ (Aw ++ []))))))) (M' := ((c94, 0, [.int .i64 y92]) :: (c20, 0, (nu2.map (fun z => AV.int .i64 z))) :: (c4, 0, [.int .i64 (((a.tr : Nat) : Int)), ka4, kr4]) :: (c2, 0, [.int .i64 0, .nils, .nils]) :: (c1, 0, [.int .i64 (((a.tr : Nat) : Int)), ka, kn]) :: (Ac ++ (Al2 ++ (Aa ++ (Ar ++ []))))) ++ (Aw ++ [])) M (by first | (simp only [List.append_assoc, List.cons_append, List.nil_append, List.append_nil, List.set_cons_zero, List.set_cons_succ]; done) | (simp only [List.append_assoc, List.cons_append, List.nil_append, List.append_nil, List.set_cons_zero, List.set_cons_succ]; rfl))) hAw sl_S_int rfl rfl rfl rfl (by rw [zC_len]; omega) rfl fun ks95 A95 _ _ K hA95 M => ?_
   replace M := Mem.cast (M := ((c94, 0, [.int .i64 y92]) :: (c20, 0, (nu2.map (fun z => AV.int .i64 z))) :: (c4, 0, [.int .i64 (((a.tr : Nat) : Int)), ka4, kr4]) :: (c2, 0, [.int .i64 0, .nils, .nils]) :: (c1, 0, [.int .i64 (((a.tr : Nat) : Int)), ka, kn]) :: (Ac ++ (Al2 ++ (Aa ++ (Ar ++ []))))) ++ (A95 ++ [])) (M' := ((c94, 0, [.int .i64 y92]) :: (c20, 0, (nu2.map (fun z => AV.int .i64 z))) :: (c4, 0, [.int .i64 (((a.tr : Nat) : Int)), ka4, kr4]) :: (c2, 0, [.int .i64 0, .nils, .nils]) :: (c1, 0, [.int .i64 (((a.tr : Nat) : Int)), ka, kn]) :: (Ac ++ (Al2 ++ (Aa ++ (Ar ++ (A95 ++ []))))))) M (by first | (simp only [List.append_assoc, List.cons_append, List.nil_append, List.append_nil, List.set_cons_zero, List.set_cons_succ]; done) | (simp only [List.append_assoc, List.cons_append, List.nil_append, List.append_nil, List.set_cons_zero, List.set_cons_succ]; rfl))
   refine o1 K (os_assign rfl) rfl fun _ K => wr_nil ?_
   show W _ _ _ _ _ _ _
   refine w_region <| o1 K (os_move rfl) rfl fun _ K => o1 K (os_add rfl rfl (by omega) (by omega)) rfl fun _ K => o1 K (os_assign rfl) rfl fun _ K => wr_nil ?_
   have e92 : y92 = y71 := (cv_at hi92).symm.trans (cv_at hi71)
   have hm3 := hm2.old wf hcls hon (s := y47) (y := (y64).toNat) (z := y92) (by rw [hrl]; exact hi47) (by omega) (by rw [hrow]; exact go_row hi49 hi64) (by omega) (by rw [hcv69]; exact cv_at hi92) (by omega)
   exact ⟨_, (by omega), c + 1, ls2, kl2, Al2, (row ++ [y92]), ks95, A95, nu2, rfl, (.cons (K _ _ rfl) (.cons (K _ _ rfl) (.cons (K _ _ rfl) (.cons (K _ _ rfl) (.cons (K _ _ rfl) (.cons (K _ _ rfl) (.cons (K _ _ rfl) (.cons (K _ _ rfl) (.cons (K _ _ rfl) (.cons (K _ _ rfl) .nil)))))))))), (B.step M).less (.cons _ (.refl _)), hm3, (by rw [List.length_append, hrow]; rfl), (by omega), htk, hAl2, (by rw [zC_app]; exact hA95)⟩
  have hb52 := h52
  replace h52 := of_decide_eq_false h52
  refine w_exit ?_
  show W _ _ _ _ _ _ _
  refine w_seq ?_
  refine w_drawI (l := [(0, 0), (1, 0), (2, 0), (3, 0), (4, 0), (5, 0), (6, 0), (7, 0), (8, 0), (9, 0), (10, 0), (11, 0), (12, 0), (13, 0)]) (by kernel_rfl) ?_
  refine d1 rfl K (os_fieldAddr fo_api_Auto_1 rfl) rfl rfl fun _ K => d1 rfl K (os_load rfl (M.load (k := 1) rfl (part_one tk_S_bool rfl))) rfl rfl fun _ K => d1 rfl K (os_fieldAddr fo_api_Auto_1 rfl) rfl rfl fun _ K => d1 rfl K (os_load rfl (M.load (k := 3) rfl (part_one tk_S_bool rfl))) rfl rfl fun _ K => d1 rfl K (os_move rfl) rfl rfl fun _ K => d1 rfl K (os_move rfl) rfl rfl fun _ K => ?_
  obtain ⟨y102, hi102⟩ : ∃ x, ls2[i]? = some x := ⟨_, List.getElem?_eq_getElem (by omega)⟩
  have hls102 := hm2.lt y102 (List.mem_of_getElem? hi102)
  obtain ⟨x102, m102, f102, q102, _, la102, lo102, lp102⟩ := (Mem.accR (L := ((c20, 0, (nu2.map (fun z => AV.int .i64 z))) :: (c4, 0, [.int .i64 (((a.tr : Nat) : Int)), ka4, kr4]) :: (c2, 0, [.int .i64 0, .nils, .nils]) :: (c1, 0, [.int .i64 (((a.tr : Nat) : Int)), ka, kn]) :: (Ac ++ []))) (A := Al2) (B := (Aa ++ (Ar ++ (Aw ++ [])))) (Mem.cast (M := ((c20, 0, (nu2.map (fun z => AV.int .i64 z))) :: (c4, 0, [.int .i64 (((a.tr : Nat) : Int)), ka4, kr4]) :: (c2, 0, [.int .i64 0, .nils, .nils]) :: (c1, 0, [.int .i64 (((a.tr : Nat) : Int)), ka, kn]) :: (Ac ++ (Al2 ++ (Aa ++ (Ar ++ (Aw ++ []))))))) (M' := ((c20, 0, (nu2.map (fun z => AV.int .i64 z))) :: (c4, 0, [.int .i64 (((a.tr : Nat) : Int)), ka4, kr4]) :: (c2, 0, [.int .i64 0, .nils, .nils]) :: (c1, 0, [.int .i64 (((a.tr : Nat) : Int)), ka, kn]) :: (Ac ++ [])) ++ (Al2 ++ (Aa ++ (Ar ++ (Aw ++ []))))) M (by first | (simp only [List.append_assoc, List.cons_append, List.nil_append, List.append_nil, List.set_cons_zero, List.set_cons_succ]; done) | (simp only [List.append_assoc, List.cons_append, List.nil_append, List.append_nil, List.set_cons_zero, List.set_cons_succ]; rfl))) hAl2).load (i := i) (cs := _) (zN_get hi102)
  refine d1 rfl K (os_indexAddr (j := i) el_S_int (congrArg some q102) rfl (by rw [zC_len, List.length_map]; omega)) rfl rfl fun _ K => d1 rfl K (os_load rfl (lo102 _ 0 _ tk_int rfl)) rfl rfl fun _ K => ?_
  obtain ⟨y104, hi104⟩ : ∃ x, a.acc[y102]? = some x := ⟨_, List.getElem?_eq_getElem (by omega)⟩
  obtain ⟨x104, m104, f104, q104, _, la104, lo104, lp104⟩ := ((B.step M).rd0 hf hA).load (i := y102) (cs := _) (bC_get hi104)
  refine d1 rfl K (os_indexAddr (j := y102) el_S_bool (congrArg some q104) rfl (by rw [bC_len]; omega)) rfl rfl fun _ K => d1 rfl K (os_load rfl (lo104 _ 0 _ tk_bool rfl)) rfl rfl fun _ K => ?_
  refine wd_bs rfl K M sl_S_bool ze_bool rfl rfl rfl rfl rfl fun c106 _ _ K M => ?_
  refine wd_acc00 (k2 := 0) (L := ((c106, 0, [.bool y104]) :: (c20, 0, (nu2.map (fun z => AV.int .i64 z))) :: (c4, 0, [.int .i64 (((a.tr : Nat) : Int)), ka4, kr4]) :: (c2, 0, [.int .i64 0, .nils, .nils]) :: (c1, 0, [.int .i64 (((a.tr : Nat) : Int)), ka, kn]) :: (Ac ++ (Al2 ++ [])))) (A := Aa) (B := (Ar ++ (Aw ++ []))) rfl K (Mem.cast (M := ((c106, 0, [.bool y104]) :: (c20, 0, (nu2.map (fun z => AV.int .i64 z))) :: (c4, 0, [.int .i64 (((a.tr : Nat) : Int)), ka4, kr4]) :: (c2, 0, [.int .i64 0, .nils, .nils]) :: (c1, 0, [.int .i64 (((a.tr : Nat) : Int)), ka, kn]) :: (Ac ++ (Al2 ++ (Aa ++ (Ar ++ (Aw ++ []))))))) (M' := ((c106, 0, [.bool y104]) :: (c20, 0, (nu2.map (fun z => AV.int .i64 z))) :: (c4, 0, [.int .i64 (((a.tr : Nat) : Int)), ka4, kr4]) :: (c2, 0, [.int .i64 0, .nils, .nils]) :: (c1, 0, [.int .i64 (((a.tr : Nat) : Int)), ka, kn]) :: (Ac ++ (Al2 ++ []))) ++ (Aa ++ (Ar ++ (Aw ++ [])))) M (by first | (simp only [List.append_assoc, List.cons_append, List.nil_append, List.append_nil, List.set_cons_zero, List.set_cons_succ]; done) | (simp only [List.append_assoc, List.cons_append, List.nil_append, List.append_nil, List.set_cons_zero, List.set_cons_succ]; rfl))) hAa sl_S_bool rfl rfl rfl rfl (by rw [bC_len, List.length_map, List.length_take]; omega) rfl fun ks107 A107 _ _ K hA107 M => ?_
  replace M := Mem.cast (M := ((c106, 0, [.bool y104]) :: (c20, 0, (nu2.map (fun z => AV.int .i64 z))) :: (c4, 0, [.int .i64 (((a.tr : Nat) : Int)), ka4, kr4]) :: (c2, 0, [.int .i64 0, .nils, .nils]) :: (c1, 0, [.int .i64 (((a.tr : Nat) : Int)), ka, kn]) :: (Ac ++ (Al2 ++ []))) ++ (A107 ++ (Ar ++ (Aw ++ [])))) (M' := ((c106, 0, [.bool y104]) :: (c20, 0, (nu2.map (fun z => AV.int .i64 z))) :: (c4, 0, [.int .i64 (((a.tr : Nat) : Int)), ka4, kr4]) :: (c2, 0, [.int .i64 0, .nils, .nils]) :: (c1, 0, [.int .i64 (((a.tr : Nat) : Int)), ka, kn]) :: (Ac ++ (Al2 ++ (A107 ++ (Ar ++ (Aw ++ []))))))) M (by first | (simp only [List.append_assoc, List.cons_append, List.nil_append, List.append_nil, List.set_cons_zero, List.set_cons_succ]; done) | (simp only [List.append_assoc, List.cons_append, List.nil_append, List.append_nil, List.set_cons_zero, List.set_cons_succ]; rfl))
  refine d1 rfl K (os_fieldAddr fo_api_Auto_1 rfl) rfl rfl fun _ K => ?_
  refine wd_store1 (k := 2) rfl K M rfl rfl rfl sz_S_bool (hA107.cell) rfl fun _ M => ?_
  refine wd_nil ?_
  show W _ _ _ _ _ _ _
  refine w_region <| o1 K (os_fieldAddr fo_api_Auto_2 rfl) rfl fun _ K => o1 K (os_load rfl (M.load (k := 2) rfl (part_one tk_S_S_int rfl))) rfl fun _ K => o1 K (os_move rfl) rfl fun _ K => ?_
  refine wr_bs K M sl_S_S_int ze_S_int rfl ((fillA_one rfl hAw.cell rfl).trans rfl) (cl_cons hAw.cell cl_nil) rfl rfl fun c112 _ _ K M => ?_
  refine wr_accX (k2 := 0) (L := ((c112, 0, [kw]) :: (c106, 0, [.bool y104]) :: (c20, 0, (nu2.map (fun z => AV.int .i64 z))) :: (c4, 0, [.int .i64 (((a.tr : Nat) : Int)), ks107, kr4]) :: (c2, 0, [.int .i64 0, .nils, .nils]) :: (c1, 0, [.int .i64 (((a.tr : Nat) : Int)), ka, kn]) :: (Ac ++ (Al2 ++ (A107 ++ []))))) (A := Ar) (B := (Aw ++ [])) K (Mem.cast (M := ((c112, 0, [kw]) :: (c106, 0, [.bool y104]) :: (c20, 0, (nu2.map (fun z => AV.int .i64 z))) :: (c4, 0, [.int .i64 (((a.tr : Nat) : Int)), ks107, kr4]) :: (c2, 0, [.int .i64 0, .nils, .nils]) :: (c1, 0, [.int .i64 (((a.tr : Nat) : Int)), ka, kn]) :: (Ac ++ (Al2 ++ (A107 ++ (Ar ++ (Aw ++ []))))))) (M' := ((c112, 0, [kw]) :: (c106, 0, [.bool y104]) :: (c20, 0, (nu2.map (fun z => AV.int .i64 z))) :: (c4, 0, [.int .i64 (((a.tr : Nat) : Int)), ks107, kr4]) :: (c2, 0, [.int .i64 0, .nils, .nils]) :: (c1, 0, [.int .i64 (((a.tr : Nat) : Int)), ka, kn]) :: (Ac ++ (Al2 ++ (A107 ++ [])))) ++ (Ar ++ (Aw ++ []))) M (by first | (simp only [List.append_assoc, List.cons_append, List.nil_append, List.append_nil, List.set_cons_zero, List.set_cons_succ]; done) | (simp only [List.append_assoc, List.cons_append, List.nil_append, List.append_nil, List.set_cons_zero, List.set_cons_succ]; rfl))) hAr sl_S_S_int rfl rfl rfl (by have := VsAt.ln ((B.step M).at_ (k := 0) rfl); have := hm2.le; omega) rfl fun ks113 A113 _ _ K hA113 _ M => ?_
  replace M := Mem.cast (M := ((c112, 0, [kw]) :: (c106, 0, [.bool y104]) :: (c20, 0, (nu2.map (fun z => AV.int .i64 z))) :: (c4, 0, [.int .i64 (((a.tr : Nat) : Int)), ks107, kr4]) :: (c2, 0, [.int .i64 0, .nils, .nils]) :: (c1, 0, [.int .i64 (((a.tr : Nat) : Int)), ka, kn]) :: (Ac ++ (Al2 ++ (A107 ++ [])))) ++ (A113 ++ (Aw ++ []))) (M' := ((c112, 0, [kw]) :: (c106, 0, [.bool y104]) :: (c20, 0, (nu2.map (fun z => AV.int .i64 z))) :: (c4, 0, [.int .i64 (((a.tr : Nat) : Int)), ks107, kr4]) :: (c2, 0, [.int .i64 0, .nils, .nils]) :: (c1, 0, [.int .i64 (((a.tr : Nat) : Int)), ka, kn]) :: (Ac ++ (Al2 ++ (A107 ++ (A113 ++ (Aw ++ []))))))) M (by first | (simp only [List.append_assoc, List.cons_append, List.nil_append, List.append_nil, List.set_cons_zero, List.set_cons_succ]; done) | (simp only [List.append_assoc, List.cons_append, List.nil_append, List.append_nil, List.set_cons_zero, List.set_cons_succ]; rfl))
  refine o1 K (os_fieldAddr fo_api_Auto_2 rfl) rfl fun _ K => ?_
  refine wr_store1 (k := 3) K M rfl rfl rfl sz_S_S_int (hA113.cell) rfl fun _ M => ?_
  refine wr_nil ?_
  show W _ _ _ _ _ _ _
  refine w_region <| o1 K (os_move rfl) rfl fun _ K => o1 K (os_add rfl rfl (by omega) (by omega)) rfl fun _ K => o1 K (os_assign rfl) rfl fun _ K => wr_nil ?_
  replace B := B.step M
  obtain ⟨Fr, B⟩ := MemO.addRow (L := ((c112, 0, [kw]) :: (c106, 0, [.bool y104]) :: (c20, 0, (nu2.map (fun z => AV.int .i64 z))) :: (c4, 0, [.int .i64 (((a.tr : Nat) : Int)), ks107, ks113]) :: (c2, 0, [.int .i64 0, .nils, .nils]) :: (c1, 0, [.int .i64 (((a.tr : Nat) : Int)), ka, kn]) :: (Ac ++ (Al2 ++ (A107 ++ (A113 ++ [])))))) (A := Aw) (B := []) (B.cast (by first | (simp only [List.append_assoc, List.cons_append, List.nil_append, List.append_nil, List.set_cons_zero, List.set_cons_succ]; done) | (simp only [List.append_assoc, List.cons_append, List.nil_append, List.append_nil, List.set_cons_zero, List.set_cons_succ]; rfl))) hAw (hm2.in64 wf)
  replace B := B.cast (M' := ((c112, 0, [kw]) :: (c106, 0, [.bool y104]) :: (c20, 0, (nu2.map (fun z => AV.int .i64 z))) :: (c4, 0, [.int .i64 (((a.tr : Nat) : Int)), ks107, ks113]) :: (c2, 0, [.int .i64 0, .nils, .nils]) :: (c1, 0, [.int .i64 (((a.tr : Nat) : Int)), ka, kn]) :: (Ac ++ (Al2 ++ (A107 ++ (A113 ++ [])))))) (by first | (simp only [List.append_assoc, List.cons_append, List.nil_append, List.append_nil, List.set_cons_zero, List.set_cons_succ]; done) | (simp only [List.append_assoc, List.cons_append, List.nil_append, List.append_nil, List.set_cons_zero, List.set_cons_succ]; rfl))
  have M := B.mem
  have hi2 := take_same htk (by omega)
  have htq : ls2.take (i + 1) = ls2.take i ++ [y102] := by rw [List.take_add_one, hi102]; rfl
  have hti : ls2.take i = ls.take i := by have := congrArg (fun l => l.take i) htk; simpa [List.take_take, Nat.min_eq_left] using this
  exact ⟨_, (by omega), i + 1, ls2, kl2, Al2, (rows ++ [row]), _, _, ks107, A107, ks113, A113, nu2, rfl, (.cons (K _ _ rfl) (.cons (K _ _ rfl) (.cons (K _ _ rfl) (.cons (K _ _ rfl) (.cons (K _ _ rfl) (.cons (K _ _ rfl) (.cons (K _ _ rfl) .nil))))))), (B.step M).less (.cons _ (.cons _ (.refl _))), (hm2.whole (by omega)), (by rw [List.length_append, hrl]; rfl), hi2, hAl2, (by rw [htq, hti, List.map_append, bC_app, show [y102].map a.ok = [y104] by rw [List.map_singleton, ok_at hi104]]; exact hA107), hA113⟩
 have hb39 := h39
 replace h39 := of_decide_eq_false h39
 refine w_exit ?_
 show W _ _ _ _ _ _ _
 refine w_seq <| w_region <| o1 K (os_load rfl (M.load (k := 1) rfl (part_agg tk_api_Auto rfl))) rfl fun _ K => ?_
 refine wr_store (k := 2) K M rfl rfl rfl sz_api_Auto rfl (cl_cons rfl (cl_cons hAa.cell (cl_cons hAr.cell cl_nil))) rfl fun _ M => ?_
 refine wr_nil ?_
 show W _ _ _ _ _ _ _
 refine w_ret ?_
 refine ⟨.inr rfl, _, (res_one (rs_cell K rfl (M.load (k := 2) rfl (part_agg tk_api_Auto rfl)))), ?_⟩
 have hlt : ls.take i = ls := List.take_of_length_le (by omega)
 rw [hlt] at hAa
 replace B := B.step M
 obtain ⟨F', B'⟩ := MemO.toLs (L := ((c20, 0, (nu.map (fun z => AV.int .i64 z))) :: (c4, 0, [.int .i64 (((a.tr : Nat) : Int)), ka4, kr4]) :: (c2, 0, [.int .i64 (((a.tr : Nat) : Int)), ka4, kr4]) :: (c1, 0, [.int .i64 (((a.tr : Nat) : Int)), ka, kn]) :: (Ac ++ (Al ++ Aa)))) (A := Ar) (B := []) (B.cast (by first | (simp only [List.append_assoc, List.cons_append, List.nil_append, List.append_nil, List.set_cons_zero, List.set_cons_succ]; done) | (simp only [List.append_assoc, List.cons_append, List.nil_append, List.append_nil, List.set_cons_zero, List.set_cons_succ]; rfl))) hAr
 exact ⟨cl, _, ⟨a.tr, ls.map a.ok, rows⟩, hcls, rfl, hm.made wf hcls (by omega), MemO.toNewAu (a := ⟨a.tr, ls.map a.ok, rows⟩) (M := ((c20, 0, (nu.map (fun z => AV.int .i64 z))) :: (c4, 0, [.int .i64 (((a.tr : Nat) : Int)), ka4, kr4]) :: (c2, 0, [.int .i64 (((a.tr : Nat) : Int)), ka4, kr4]) :: (c1, 0, [.int .i64 (((a.tr : Nat) : Int)), ka, kn]) :: (Ac ++ Al))) (A := Aa) (B'.cast (by simp)) hAa, B.qt⟩
end Go.Proofs.YtiknomepbklibaaGreatDoor
