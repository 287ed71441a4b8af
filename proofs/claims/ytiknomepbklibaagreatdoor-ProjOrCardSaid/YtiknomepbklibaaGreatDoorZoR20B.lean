/-
  Both of two automata: the reference's answer.
-/
import Derived.Test.YtiknomepbklibaaGreatDoorZoR20
namespace Go.Proofs.YtiknomepbklibaaGreatDoor
open Go Go.RowKit
set_option linter.unusedVariables false
set_option linter.unusedSimpArgs false
set_option linter.unnecessarySimpa false
set_option maxRecDepth 100000
set_option maxHeartbeats 4000000

theorem ok_at2 {a : Au} {i : Nat} {y : Bool} (h : a.acc[i]? = some y) : a.ok i = y := by unfold Au.ok; rw [h]; rfl
theorem tab_dec (n : Nat) : (n % 2 == 1) = decide (((n % 2 : Nat) : Int) = 1) := by
 have h : n % 2 = 0 ∨ n % 2 = 1 := by omega
 rcases h with h | h <;> rw [h] <;> rfl
/-- An automaton's rows, that do not lie where a meter lies. -/
def AuOff (st : St) (mp : Nat) (a : Au) (ka kn : AV) (ls : List (List AV)) : Prop := ∀ h' : Hp, (∀ c, c < st.n → c ≠ mp → h' c = st.h.get c) → RdR h' [] 1 (bC a.acc) ka ∧ LsR h' a.nx kn ls
/-- What comes of it. -/
def BothR (st st' : St) (a b : Au) (t mp l : Nat) (v : AV) : Prop :=
  (∃ x lp m, v = .tup [x, .int .i64 0] ∧ BothA a b t lp m ∧ NewAu st st' m x ∧ Row1 st'.h.get mp 0 [.int .i64 ((l - lp.length : Nat) : Int), .bool false]) ∨
  (∃ (lp : List (Nat × Nat)), v = .tup [.agg [.int .i64 0, .nils, .nils], .int .i64 8] ∧ lp.length = 401 ∧ lp.Nodup ∧ (∀ (Q : Nat × Nat → Prop), Q (0, 0) → (∀ p c, Q p → c < 2 ^ a.tr → Q (goP a b p c)) → ∀ p ∈ lp, Q p) ∧ Row1 st'.h.get mp 0 [.int .i64 ((l - 401 : Nat) : Int), .bool false])

theorem r20both_ev {st : St} (hf : Fresh st) {a b : Au} (wfa : WFA a) (wfb : WFA b) {ka kn kb km : AV} {ls ls2 : List (List AV)} {mp l : Nat} (hA : AuOff st mp a ka kn ls) (hB : AuOff st mp b kb km ls2) (ht : b.tr = a.tr) {t : Nat} (ht15 : t ≤ 15) (hm : Row1 st.h.get mp 0 [.int .i64 ((l : Nat) : Int), .bool false]) (hl1 : 401 ≤ l) (hl : l ≤ 9223372036854775807) : ∃ v st', Ev Tryz.prog envP 14 [.agg [.int .i64 (((a.tr : Nat) : Int)), ka, kn], .agg [.int .i64 (((b.tr : Nat) : Int)), kb, km], .int .i64 (((t : Nat) : Int)), .ptr mp 0 0] st v st' ∧ BothR st st' a b t mp l v ∧ ChgF (fun c => c = mp) st st' := by
 have hac := (hA _ fun c _ _ => rfl).1.cell; have hnc := (hA _ fun c _ _ => rfl).2.r.cell; have hbc := (hB _ fun c _ _ => rfl).1.cell; have hmc := (hB _ fun c _ _ => rfl).2.r.cell
 have htr := wfa.tr; have hp6 := pow_le64 htr; have hp0 : 0 < 2 ^ a.tr := Nat.two_pow_pos _; have hlna := wfa.len; have hlnb := wfb.len; have hena : a.n = a.acc.length := rfl; have henb : b.n = b.acc.length := rfl
 have htp : 2 ^ b.tr = 2 ^ a.tr := by rw [ht]
 have B := MemO.startO (o := mtO mp l false) hf hm (fun c hc => (show c = mp from hc) ▸ hm.lt hf)
 refine ev_fn rfl Tryz.func14 rfl Tryz.ntmps14 rfl (by decide) (by simp) fun T hT => ?_
 have K : KnT [(0, _), (1, _), (2, _), (3, _)] T := (.cons (hT 0) (.cons (hT 1) (.cons (hT 2) (.cons (hT 3) .nil))))
 have M := B.mem
 refine w_seq <| w_region ?_
 refine wr_box K M rfl (cl_cons rfl (cl_cons ((hA _ fun c h1 h2 => (B.step M).old c h1 h2).1).cell (cl_cons (hA _ fun c h1 h2 => (B.step M).old c h1 h2).2.r.cell cl_nil))) (by decide) fun c4 _ _ K M => ?_
 refine wr_box K M rfl (cl_cons rfl (cl_cons ((hB _ fun c h1 h2 => (B.step M).old c h1 h2).1).cell (cl_cons (hB _ fun c h1 h2 => (B.step M).old c h1 h2).2.r.cell cl_nil))) (by decide) fun c5 _ _ K M => ?_
 refine wr_alloc K M ze_api_Auto (by decide) fun c8 _ _ K M => ?_
 refine o1 K (os_assign rfl) rfl fun _ K => wr_nil ?_
 show W _ _ _ _ _ _ _
 refine w_seq <| w_seq <| w_region <| o1 K (os_fieldAddr fo_api_Auto_0 rfl) rfl fun _ K => o1 K (os_load rfl (M.load (k := 2) rfl (part_one tk_int rfl))) rfl fun _ K => o1 K (os_fieldAddr fo_api_Auto_0 rfl) rfl fun _ K => o1 K (os_load rfl (M.load (k := 1) rfl (part_one tk_int rfl))) rfl fun _ K => o1 K (os_neI rfl rfl) rfl fun _ K => ?_
 refine oB K (os_move rfl) rfl fun b23 _ e23 K => ?_
 cases b23
 ·replace e23 : (((a.tr : Nat) : Int) = ((b.tr : Nat) : Int)) := by first | simpa using e23 | (by_cases hq : (((a.tr : Nat) : Int) = ((b.tr : Nat) : Int)); exact hq; rw [decide_eq_false hq] at e23; cases e23)
  refine og K rfl rfl (os_move rfl) rfl fun _ K => og K rfl rfl (os_lss rfl rfl) rfl fun _ K => o1 K (os_pick rfl rfl rfl) rfl fun _ K => ?_
  refine oB K (os_move rfl) rfl fun b27 _ e27 K => ?_
  cases b27
  ·replace e27 := of_decide_eq_false e27
   refine og K rfl rfl (os_move rfl) rfl fun _ K => og K rfl rfl (os_gtr rfl rfl) rfl fun _ K => o1 K (os_pick rfl rfl rfl) rfl fun _ K => wr_nil ?_
   show W _ _ _ _ _ _ _
   refine w_cond (K.opd rfl) (fun h30 => ?_) (fun h30 => ?_)
   ·have hb30 := h30
    replace h30 := of_decide_eq_true h30
    exfalso; omega
   have hb30 := h30
   replace h30 := of_decide_eq_false h30
   refine w_skip ?_
   show W _ _ _ _ _ _ _
   refine w_seq <| w_region <| o1 K (os_fieldAddr fo_api_Auto_0 rfl) rfl fun _ K => o1 K (os_load rfl (M.load (k := 2) rfl (part_one tk_int rfl))) rfl fun _ K => o1 K (os_build st_api_Auto rfl rfl) rfl fun _ K => ?_
   refine wr_alloc K M ze_api_Auto (by decide) fun c10 _ _ K M => ?_
   refine wr_store (k := 0) K M rfl rfl rfl sz_api_Auto rfl rfl rfl fun _ M => ?_
   refine wr_nil ?_
   show W _ _ _ _ _ _ _
   refine w_seq <| w_region <| o1 K (os_build st_sibylref20_pair rfl rfl) rfl fun _ K => ?_
   refine wr_bs K M sl_S_sibylref20_pair ze_sibylref20_pair rfl rfl rfl rfl rfl fun c36 _ _ K M => ?_
   refine o1 K (os_assign rfl) rfl fun _ K => wr_nil ?_
   show W _ _ _ _ _ _ _
   refine w_seq <| w_seq ?_
   replace B := B.step M
   obtain ⟨Fl0, B⟩ := MemO.closeAcc (z := 2) (ks := .sl c36 0 0 1 2) (ls := prC [(0, 0)]) (A := [(c36, 0, [.int .i64 0, .int .i64 0])]) (M := [(c10, 0, [.int .i64 (((a.tr : Nat) : Int)), .nils, .nils]), (c8, 0, [.int .i64 0, .nils, .nils]), (c5, 0, [.int .i64 (((b.tr : Nat) : Int)), kb, km]), (c4, 0, [.int .i64 (((a.tr : Nat) : Int)), ka, kn])]) B (Acc.own (n0 := 0) (z := 2) (c := c36) (m := 0) (ls := prC [(0, 0)]) (Nat.zero_le _) (by simp [prC]) (by simp [prC]))
   have hkl0 : isCell (.sl c36 0 0 1 2) = true := rfl
   have M := B.mem
   refine w_region <| o1 K (os_move rfl) rfl fun _ K => ?_
   replace B := B.step M
   obtain ⟨v38, st38, ev38, rfl, hms38, Qs38⟩ := r20Spend_ev B.fresh (show Row1 _ mp 0 [.int .i64 ((l : Nat) : Int), .bool false] from B.at_ (k := 1) rfl) (by omega) (by omega) 1
   refine o1 K (os_call rfl ev38) rfl fun _ K => ?_
   replace B := B.call (k := 1) (o' := mtO mp (l - 1) false) rfl Qs38 hms38 (noMore fun c hc => Nat.lt_of_lt_of_le (B.hi_ (k := 1) rfl c hc) Qs38.le)
   have M := B.mem
   refine o1 K (os_not rfl) rfl fun _ K => wr_nil ?_
   show W _ _ _ _ _ _ _
   refine w_cond (t := false) (K.opd rfl) (fun h => by cases h) (fun _ => ?_)
   refine w_skip ?_
   show W _ _ _ _ _ _ _
   refine w_seq <| w_seq ?_
   replace B := (B.step M).noRows
   have M := B.mem
   refine w_region <| o1 K (os_assign rfl) rfl fun _ K => wr_nil ?_
   show W _ _ _ _ _ _ _
   refine w_block ?_
   refine w_loop (fun mm1 T st9 => ∃ (i : Nat) (lp : List (Nat × Nat)) (kl : AV) (Fl : Fp) (rows : List (List Int)) (vs : List AV) (F : Fp) (ka4 : AV) (Aa : Rows2) (kr4 : AV) (Ar : Rows2), mm1 = 400 - i ∧ KnT [(2, .int .i64 (((t : Nat) : Int))), (3, .ptr mp 0 0), (4, .ptr c4 0 0), (5, .ptr c5 0 0), (8, .ptr c8 0 0), (10, .ptr c10 0 0), (11, kl), (12, .int .i64 (((i : Nat) : Int)))] T ∧ MemO st (mtO mp l false).F st9 ((c10, 0, [.int .i64 (((a.tr : Nat) : Int)), ka4, kr4]) :: (c8, 0, [.int .i64 0, .nils, .nils]) :: (c5, 0, [.int .i64 (((b.tr : Nat) : Int)), kb, km]) :: (c4, 0, [.int .i64 (((a.tr : Nat) : Int)), ka, kn]) :: (Aa ++ (Ar ++ []))) [vsO F vs rows, accO Fl 2 kl (prC lp), mtO mp (l - lp.length) false] ∧ PrI (goP a b) (0, 0) (2 ^ a.tr) lp rows [] ∧ rows.length = i ∧ i ≤ lp.length ∧ lp.length ≤ 400 ∧ Acc 0 1 Aa ka4 (bC ((lp.take i).map (okP a b t))) ∧ AccX Ar kr4 vs) (fun mm1 T st9 hI => ?_) _ _ _ ⟨0, [(0, 0)], _, Fl0, [], [], _, .nils, [], .nils, [], rfl, (.cons (K _ _ rfl) (.cons (K _ _ rfl) (.cons (K _ _ rfl) (.cons (K _ _ rfl) (.cons (K _ _ rfl) (.cons (K _ _ rfl) (.cons (K _ _ rfl) (.cons (K _ _ rfl) .nil)))))))), (B.step M).less (.refl _), (PrI.start _ _ _), rfl, (by decide), (by decide), .none, .none⟩
   obtain ⟨i, lp, kl, Fl, rows, vs, F, ka4, Aa, kr4, Ar, rfl, K, B, hP, hrl, hil, hlp, hAa, hAr⟩ := hI
   have M := B.mem
   have hall := hP.pairs wfa wfb ht
   refine w_seq <| w_seq <| w_region <| o1 K (os_move rfl) rfl fun _ K => o1 K (os_move rfl) rfl fun _ K => o1 K (os_lenL un_S_sibylref20_pair rfl rfl ((AccAt.len ((B.step M).at_ (k := 1) rfl)).trans (congrArg some (prC_len _)))) rfl fun _ K => o1 K (os_lss rfl rfl) rfl fun _ K => wr_nil ?_
   show W _ _ _ _ _ _ _
   refine w_cond (K.opd rfl) (fun h44 => ?_) (fun h44 => ?_)
   ·have hb44 := h44
    replace h44 := of_decide_eq_true h44
    refine w_skip ?_
    show W _ _ _ _ _ _ _
    refine w_seq <| w_block <| w_seq <| w_region <| o1 K (os_assign rfl) rfl fun _ K => wr_nil ?_
    show W _ _ _ _ _ _ _
    refine w_seq <| w_seq <| w_region <| o1 K (os_assign rfl) rfl fun _ K => wr_nil ?_
    show W _ _ _ _ _ _ _
    refine w_block ?_
    refine w_loop (fun mm2 T st9 => ∃ (c : Nat) (lp2 : List (Nat × Nat)) (kl2 : AV) (Fl2 : Fp) (row : List Int) (kw : AV) (Aw : Rows2), mm2 = 2 ^ a.tr - c ∧ KnT [(2, .int .i64 (((t : Nat) : Int))), (3, .ptr mp 0 0), (4, .ptr c4 0 0), (5, .ptr c5 0 0), (8, .ptr c8 0 0), (10, .ptr c10 0 0), (11, kl2), (12, .int .i64 (((i : Nat) : Int))), (13, kw), (14, .int .i64 (((c : Nat) : Int))), (44, .bool (decide (((i : Nat) : Int) < ((lp.length : Nat) : Int))))] T ∧ MemO st (mtO mp l false).F st9 ((c10, 0, [.int .i64 (((a.tr : Nat) : Int)), ka4, kr4]) :: (c8, 0, [.int .i64 0, .nils, .nils]) :: (c5, 0, [.int .i64 (((b.tr : Nat) : Int)), kb, km]) :: (c4, 0, [.int .i64 (((a.tr : Nat) : Int)), ka, kn]) :: (Aa ++ (Ar ++ (Aw ++ [])))) [vsO F vs rows, accO Fl2 2 kl2 (prC lp2), mtO mp (l - lp2.length) false] ∧ PrI (goP a b) (0, 0) (2 ^ a.tr) lp2 rows row ∧ row.length = c ∧ c ≤ 2 ^ a.tr ∧ lp2.length ≤ 400 ∧ lp2.take (i + 1) = lp.take (i + 1) ∧ Acc 0 1 Aw kw (zC row)) (fun mm2 T st9 hI => ?_) _ _ _ ⟨0, lp, kl, Fl, [], .nils, [], rfl, (.cons (K _ _ rfl) (.cons (K _ _ rfl) (.cons (K _ _ rfl) (.cons (K _ _ rfl) (.cons (K _ _ rfl) (.cons (K _ _ rfl) (.cons (K _ _ rfl) (.cons (K _ _ rfl) (.cons (K _ _ rfl) (.cons (K _ _ rfl) (.cons (K _ _ rfl) .nil))))))))))), (B.step M).less (.refl _), hP, rfl, (Nat.zero_le _), hlp, rfl, .none⟩
    obtain ⟨c, lp2, kl2, Fl2, row, kw, Aw, rfl, K, B, hP2, hrow, hcK, hl2, htk, hAw⟩ := hI
    have M := B.mem
    have hall2 := hP2.pairs wfa wfb ht; have hi2 := take_same htk (by omega)
    refine w_seq <| w_seq <| w_region <| o1 K (os_move rfl) rfl fun _ K => o1 K (os_fieldAddr fo_api_Auto_0 rfl) rfl fun _ K => o1 K (os_load rfl (M.load (k := 3) rfl (part_one tk_int rfl))) rfl fun _ K => o1 K (os_convW (c := ((a.tr : Nat) : Int)) un_uint un_int rfl (IntWalk.u64_in _ (by omega))) rfl fun _ K => o1 K (os_shl1 (n := a.tr) rfl rfl (by omega)) rfl fun _ K => o1 K (os_lss rfl rfl) rfl fun _ K => ?_
    refine wr_nil ?_
    show W _ _ _ _ _ _ _
    refine w_cond (K.opd rfl) (fun h52 => ?_) (fun h52 => ?_)
    ·have hb52 := h52
     replace h52 := of_decide_eq_true h52
     refine w_skip ?_
     show W _ _ _ _ _ _ _
     refine w_seq <| w_block <| w_seq <| w_region <| o1 K (os_assign rfl) rfl fun _ K => o1 K (os_assign rfl) rfl fun _ K => wr_nil ?_
     show W _ _ _ _ _ _ _
     refine w_seq ?_
     refine w_drawI (l := [(0, 0), (1, 0), (2, 0), (3, 0), (4, 0), (5, 0), (6, 0), (7, 0), (8, 0), (9, 0), (10, 0), (11, 0), (12, 0), (13, 0), (14, 0), (15, 0), (16, 0), (17, 0), (18, 0), (19, 0), (20, 0), (21, 0), (22, 0), (23, 0), (24, 0), (25, 0), (26, 0), (27, 0), (28, 0), (29, 0), (30, 0), (31, 0), (32, 0), (33, 0)]) (by kernel_rfl) ?_
     refine d1 rfl K (os_move rfl) rfl rfl fun _ K => d1 rfl K (os_fieldAddr fo_api_Auto_2 rfl) rfl rfl fun _ K => d1 rfl K (os_load rfl (M.load (k := 3) rfl (part_one tk_S_S_int rfl))) rfl rfl fun _ K => d1 rfl K (os_move rfl) rfl rfl fun _ K => d1 rfl K (os_move rfl) rfl rfl fun _ K => ?_
     obtain ⟨pr61, hi61⟩ : ∃ x, lp2[i]? = some x := ⟨_, List.getElem?_eq_getElem (by omega)⟩
     have hpb61 := hall2 pr61 (List.mem_of_getElem? hi61)
     obtain ⟨x61, m61, f61, q61, _, la61, lo61, lp61⟩ := (AccAt.rd ((B.step M).at_ (k := 1) rfl)).load (i := i) (cs := _) (prC_get hi61)
     refine d1 rfl K (os_indexAddr (j := i) el_S_sibylref20_pair (congrArg some q61) rfl (by rw [prC_len]; omega)) rfl rfl fun _ K => d1 rfl K (os_fieldAddr fo_sibylref20_pair_0 rfl) rfl rfl fun _ K => d1 rfl K (os_load rfl (lo61 _ 0 _ tk_int rfl)) rfl rfl fun _ K => ?_
     obtain ⟨s64, hi64⟩ : ∃ x, a.nx[pr61.1]? = some x := ⟨_, List.getElem?_eq_getElem (by omega)⟩
     obtain ⟨_, hc64, w64, rfl, hr64, hz64⟩ := (hA _ fun c h1 h2 => (B.step M).old c h1 h2).2.at_ _ _ hi64
     have hw64 := wfa.row s64 (List.mem_of_getElem? hi64)
     have hl64 : s64.length = 2 ^ a.tr := hw64.1
     obtain ⟨x64, m64, f64, q64, _, la64, lo64, lp64⟩ := (RowsZ.r (hA _ fun c h1 h2 => (B.step M).old c h1 h2).2).load (i := pr61.1) (cs := _) hc64
     refine d1 rfl K (os_indexAddr (j := pr61.1) el_S_S_int (congrArg some q64) rfl (by rw [(hA _ fun c h1 h2 => (B.step M).old c h1 h2).2.ln]; omega)) rfl rfl fun _ K => d1 rfl K (os_load rfl (lo64 _ 0 _ tk_S_int rfl)) rfl rfl fun _ K => d1 rfl K (os_move rfl) rfl rfl fun _ K => ?_
     obtain ⟨y67, hi67⟩ : ∃ x, s64[c]? = some x := ⟨_, List.getElem?_eq_getElem (by omega)⟩
     have hb67 := hw64.2 y67 (List.mem_of_getElem? hi67)
     obtain ⟨z67, rfl⟩ : ∃ m : Nat, y67 = ((m : Nat) : Int) := ⟨_, (Int.toNat_of_nonneg hb67.1).symm⟩
     obtain ⟨x67, m67, f67, q67, _, la67, lo67, lp67⟩ := hr64.load (i := c) (cs := _) (zC_get hi67)
     refine d1 rfl K (os_indexAddr (j := c) el_S_int (congrArg some q67) rfl (by rw [zC_len]; omega)) rfl rfl fun _ K => d1 rfl K (os_load rfl (lo67 _ 0 _ tk_int rfl)) rfl rfl fun _ K => d1 rfl K (os_fieldAddr fo_api_Auto_2 rfl) rfl rfl fun _ K => d1 rfl K (os_load rfl (M.load (k := 2) rfl (part_one tk_S_S_int rfl))) rfl rfl fun _ K => d1 rfl K (os_move rfl) rfl rfl fun _ K => d1 rfl K (os_move rfl) rfl rfl fun _ K => ?_
     obtain ⟨x73, m73, f73, q73, _, la73, lo73, lp73⟩ := (AccAt.rd ((B.step M).at_ (k := 1) rfl)).load (i := i) (cs := _) (prC_get hi61)
     refine d1 rfl K (os_indexAddr (j := i) el_S_sibylref20_pair (congrArg some q73) rfl (by rw [prC_len]; omega)) rfl rfl fun _ K => d1 rfl K (os_fieldAddr fo_sibylref20_pair_1 rfl) rfl rfl fun _ K => d1 rfl K (os_load rfl (lo73 _ 1 _ tk_int rfl)) rfl rfl fun _ K => ?_
     obtain ⟨s76, hi76⟩ : ∃ x, b.nx[pr61.2]? = some x := ⟨_, List.getElem?_eq_getElem (by omega)⟩
     obtain ⟨_, hc76, w76, rfl, hr76, hz76⟩ := (hB _ fun c h1 h2 => (B.step M).old c h1 h2).2.at_ _ _ hi76
     have hw76 := wfb.row s76 (List.mem_of_getElem? hi76)
     have hl76 : s76.length = 2 ^ b.tr := hw76.1
     obtain ⟨x76, m76, f76, q76, _, la76, lo76, lp76⟩ := (RowsZ.r (hB _ fun c h1 h2 => (B.step M).old c h1 h2).2).load (i := pr61.2) (cs := _) hc76
     refine d1 rfl K (os_indexAddr (j := pr61.2) el_S_S_int (congrArg some q76) rfl (by rw [(hB _ fun c h1 h2 => (B.step M).old c h1 h2).2.ln]; omega)) rfl rfl fun _ K => d1 rfl K (os_load rfl (lo76 _ 0 _ tk_S_int rfl)) rfl rfl fun _ K => d1 rfl K (os_move rfl) rfl rfl fun _ K => ?_
     obtain ⟨y79, hi79⟩ : ∃ x, s76[c]? = some x := ⟨_, List.getElem?_eq_getElem (by omega)⟩
     have hb79 := hw76.2 y79 (List.mem_of_getElem? hi79)
     obtain ⟨z79, rfl⟩ : ∃ m : Nat, y79 = ((m : Nat) : Int) := ⟨_, (Int.toNat_of_nonneg hb79.1).symm⟩
     obtain ⟨x79, m79, f79, q79, _, la79, lo79, lp79⟩ := hr76.load (i := c) (cs := _) (zC_get hi79)
     refine d1 rfl K (os_indexAddr (j := c) el_S_int (congrArg some q79) rfl (by rw [zC_len]; omega)) rfl rfl fun _ K => d1 rfl K (os_load rfl (lo79 _ 0 _ tk_int rfl)) rfl rfl fun _ K => d1 rfl K (os_build st_sibylref20_pair rfl rfl) rfl rfl fun _ K => ?_
     replace B := B.step M
     obtain ⟨v82, st82, ev82, kl3, k3, was3, lp3, F3, rfl, hO3, mf3, Q3, hnum⟩ := r20num_ev B.fresh (B.at_ (k := 1) rfl) (B.hi_ (k := 1) rfl) (by omega) (z67, z79)
     refine dA rfl K (os_call rfl ev82) rfl rfl fun _ K => ?_
     replace B := B.call (k := 1) (o' := accO F3 2 kl3 (prC lp3)) rfl Q3 hO3 mf3
     have hnl := hnum.len
     have M := B.mem
     refine d1 rfl K (os_move rfl) rfl rfl fun _ K => d1 rfl K (os_extract rfl rfl) rfl rfl fun _ K => d1 rfl K (os_extract rfl rfl) rfl rfl fun _ K => d1 rfl K (os_extract rfl rfl) rfl rfl fun _ K => d1 rfl K (os_assign rfl) rfl rfl fun _ K => d1 rfl K (os_assign rfl) rfl rfl fun _ K => d1 rfl K (os_assign rfl) rfl rfl fun _ K => wd_nil ?_
     show W _ _ _ _ _ _ _
     refine w_seq <| w_seq <| w_region <| o1 K (os_move rfl) rfl fun _ K => o1 K (os_not rfl) rfl fun _ K => ?_
     refine oB K (os_move rfl) rfl fun b88 _ e88 K => ?_
     cases b88
     ·replace e88 : (was3) = true := by first | simpa using e88 | (revert e88; cases (was3) <;> simp)
      refine gn K rfl rfl rfl rfl fun _ K => gn K rfl rfl rfl rfl fun _ K => gn K rfl rfl rfl rfl fun _ K => gn K rfl rfl rfl rfl fun _ K => gn K rfl rfl rfl rfl fun _ K => o1 K (os_pick rfl rfl rfl) rfl fun _ K => wr_nil ?_
      show W _ _ _ _ _ _ _
      refine w_cond (t := false) (K.opd rfl) (fun h => by cases h) (fun _ => ?_)
      refine w_skip ?_
      show W _ _ _ _ _ _ _
      refine w_region <| o1 K (os_move rfl) rfl fun _ K => o1 K (os_move rfl) rfl fun _ K => ?_
      refine wr_bs K M sl_S_int ze_int rfl rfl rfl rfl rfl fun c98 _ _ K M => ?_
      refine wr_acc00 (k2 := 0) (L := ((c98, 0, [.int .i64 (((k3 : Nat) : Int))]) :: (c10, 0, [.int .i64 (((a.tr : Nat) : Int)), ka4, kr4]) :: (c8, 0, [.int .i64 0, .nils, .nils]) :: (c5, 0, [.int .i64 (((b.tr : Nat) : Int)), kb, km]) :: (c4, 0, [.int .i64 (((a.tr : Nat) : Int)), ka, kn]) :: (Aa ++ (Ar ++ [])))) (A := Aw) (B := []) K (Mem.cast (M := ((c98, 0, [.int .i64 (((k3 : Nat) : Int))]) :: (c10, 0, [.int .i64 (((a.tr : Nat) : Int)), ka4, kr4]) :: (c8, 0, [.int .i64 0, .nils, .nils]) :: (c5, 0, [.int .i64 (((b.tr : Nat) : Int)), kb, km]) :: (c4, 0, [.int .i64 (((a.tr : Nat) : Int)), ka, kn]) :: (Aa ++ (Ar ++ (Aw ++ []))))) (M' := ((c98, 0, [.int .i64 (((k3 : Nat) : Int))]) :: (c10, 0, [.int .i64 (((a.tr : Nat) : Int)), ka4, kr4]) :: (c8, 0, [.int .i64 0, .nils, .nils]) :: (c5, 0, [.int .i64 (((b.tr : Nat) : Int)), kb, km]) :: (c4, 0, [.int .i64 (((a.tr : Nat) : Int)), ka, kn]) :: (Aa ++ (Ar ++ []))) ++ (Aw ++ [])) M (by first | (simp only [List.append_assoc, List.cons_append, List.nil_append, List.append_nil, List.set_cons_zero, List.set_cons_succ]; done) | (simp only [List.append_assoc, List.cons_append, List.nil_append, List.append_nil, List.set_cons_zero, List.set_cons_succ]; rfl))) hAw sl_S_int rfl rfl rfl rfl (by rw [zC_len]; omega) rfl fun ks99 A99 _ _ K hA99 M => ?_
      replace M := Mem.cast (M := ((c98, 0, [.int .i64 (((k3 : Nat) : Int))]) :: (c10, 0, [.int .i64 (((a.tr : Nat) : Int)), ka4, kr4]) :: (c8, 0, [.int .i64 0, .nils, .nils]) :: (c5, 0, [.int .i64 (((b.tr : Nat) : Int)), kb, km]) :: (c4, 0, [.int .i64 (((a.tr : Nat) : Int)), ka, kn]) :: (Aa ++ (Ar ++ []))) ++ (A99 ++ [])) (M' := ((c98, 0, [.int .i64 (((k3 : Nat) : Int))]) :: (c10, 0, [.int .i64 (((a.tr : Nat) : Int)), ka4, kr4]) :: (c8, 0, [.int .i64 0, .nils, .nils]) :: (c5, 0, [.int .i64 (((b.tr : Nat) : Int)), kb, km]) :: (c4, 0, [.int .i64 (((a.tr : Nat) : Int)), ka, kn]) :: (Aa ++ (Ar ++ (A99 ++ []))))) M (by first | (simp only [List.append_assoc, List.cons_append, List.nil_append, List.append_nil, List.set_cons_zero, List.set_cons_succ]; done) | (simp only [List.append_assoc, List.cons_append, List.nil_append, List.append_nil, List.set_cons_zero, List.set_cons_succ]; rfl))
      refine o1 K (os_assign rfl) rfl fun _ K => wr_nil ?_
      show W _ _ _ _ _ _ _
      refine w_region <| o1 K (os_move rfl) rfl fun _ K => o1 K (os_add rfl rfl (by omega) (by omega)) rfl fun _ K => o1 K (os_assign rfl) rfl fun _ K => wr_nil ?_
      replace B := B.step M
      rw [show (l - lp2.length) = l - lp3.length by have := hnl; first | omega | (simp_all; done) | (simp_all; omega)] at B
      have M := B.mem
      have hgo : goP a b pr61 row.length = (z67, z79) := by unfold goP; rw [hrow, go_row hi64 hi67, go_row hi76 hi79]; rfl
      have hP3 := hnum.pr hP2 (by omega) (show lp2[rows.length]? = some pr61 by rw [hrl]; exact hi61) hgo
      exact ⟨_, (by omega), c + 1, lp3, _, F3, (row ++ [((k3 : Nat) : Int)]), ks99, A99, rfl, (.cons (K _ _ rfl) (.cons (K _ _ rfl) (.cons (K _ _ rfl) (.cons (K _ _ rfl) (.cons (K _ _ rfl) (.cons (K _ _ rfl) (.cons (K _ _ rfl) (.cons (K _ _ rfl) (.cons (K _ _ rfl) (.cons (K _ _ rfl) (.cons (K _ _ rfl) .nil))))))))))), (B.step M).less (.cons _ (.refl _)), hP3, (by rw [List.length_append, hrow]; rfl), (by omega), (by have := hnl; first | omega | (simp_all; done) | (simp_all; omega)), (by rw [hnum.take hi2, htk]), (by rw [zC_app]; exact hA99)⟩
     replace e88 : (was3) = false := by first | simpa using e88 | (revert e88; cases (was3) <;> simp)
     refine og K rfl rfl (os_move rfl) rfl fun _ K => og K rfl rfl (os_move rfl) rfl fun _ K => og K rfl rfl (os_lenL un_S_sibylref20_pair rfl rfl ((AccAt.len ((B.step M).at_ (k := 1) rfl)).trans (congrArg some (prC_len _)))) rfl fun _ K => ?_
     replace B := B.step M
     obtain ⟨v92, st92, ev92, rfl, hms92, Qs92⟩ := r20Spend_ev B.fresh (show Row1 _ mp 0 [.int .i64 (((l - lp2.length) : Nat) : Int), .bool false] from B.at_ (k := 2) rfl) (by omega) (by omega) lp3.length
     refine og K rfl rfl (os_call rfl ev92) rfl fun _ K => ?_
     replace B := B.call (k := 2) (o' := mtO mp (l - lp2.length - 1) false) rfl Qs92 hms92 (noMore fun c hc => Nat.lt_of_lt_of_le (B.hi_ (k := 2) rfl c hc) Qs92.le)
     have M := B.mem
     refine og K rfl rfl (os_not rfl) rfl fun _ K => o1 K (os_pick rfl rfl rfl) rfl fun _ K => wr_nil ?_
     show W _ _ _ _ _ _ _
     refine w_cond (K.opd rfl) (fun h94 => ?_) (fun h94 => ?_)
     ·have hb94 := h94
      replace h94 : ¬ ((lp3.length : Int) ≤ 400) := by first | simpa using h94 | (intro hq; rw [decide_eq_true hq] at h94; cases h94)
      refine w_seq <| w_region <| o1 K (os_build st_api_Auto rfl rfl) rfl fun _ K => ?_
      refine wr_store (k := 1) K M rfl rfl rfl sz_api_Auto rfl rfl rfl fun _ M => ?_
      refine o1 K (os_assign rfl) rfl fun _ K => wr_nil ?_
      show W _ _ _ _ _ _ _
      refine w_ret ?_
      refine ⟨.inr rfl, _, (res_two (rs_cell K rfl (M.load (k := 1) rfl (part_agg tk_api_Auto rfl))) (rs_tmp K rfl)), ?_⟩
      have hgo : goP a b pr61 row.length = (z67, z79) := by unfold goP; rw [hrow, go_row hi64 hi67, go_row hi76 hi79]; rfl
      have hP3 := hnum.pr hP2 (by omega) (show lp2[rows.length]? = some pr61 by rw [hrl]; exact hi61) hgo
      replace B := B.step M
      have h401 : lp3.length = 401 := by have := hnl; omega
      have hmt : Row1 _ mp 0 [.int .i64 ((l - lp2.length - 1 : Nat) : Int), .bool false] := B.at_ (k := 2) rfl
      rw [show l - lp2.length - 1 = l - 401 by have := hnl; first | omega | (simp_all; done) | (simp_all; omega)] at hmt
      exact ⟨.inr ⟨lp3, rfl, h401, hP3.nodup, fun Q h0 hs p hp => hP3.all h0 hs (Nat.two_pow_pos _) hp, hmt⟩, B.chgF⟩
     have hb94 := h94
     replace h94 : ((lp3.length : Int) ≤ 400) := by first | simpa using h94 | (by_cases hq : ((lp3.length : Int) ≤ 400); exact hq; rw [decide_eq_false hq] at h94; cases h94)
     refine w_skip ?_
     show W _ _ _ _ _ _ _
     refine w_region <| o1 K (os_move rfl) rfl fun _ K => o1 K (os_move rfl) rfl fun _ K => ?_
     refine wr_bs K M sl_S_int ze_int rfl rfl rfl rfl rfl fun c98 _ _ K M => ?_
     refine wr_acc00 (k2 := 0) (L := ((c98, 0, [.int .i64 (((k3 : Nat) : Int))]) :: (c10, 0, [.int .i64 (((a.tr : Nat) : Int)), ka4, kr4]) :: (c8, 0, [.int .i64 0, .nils, .nils]) :: (c5, 0, [.int .i64 (((b.tr : Nat) : Int)), kb, km]) :: (c4, 0, [.int .i64 (((a.tr : Nat) : Int)), ka, kn]) :: (Aa ++ (Ar ++ [])))) (A := Aw) (B := []) K (Mem.cast (M := ((c98, 0, [.int .i64 (((k3 : Nat) : Int))]) :: (c10, 0, [.int .i64 (((a.tr : Nat) : Int)), ka4, kr4]) :: (c8, 0, [.int .i64 0, .nils, .nils]) :: (c5, 0, [.int .i64 (((b.tr : Nat) : Int)), kb, km]) :: (c4, 0, [.int .i64 (((a.tr : Nat) : Int)), ka, kn]) :: (Aa ++ (Ar ++ (Aw ++ []))))) (M' := ((c98, 0, [.int .i64 (((k3 : Nat) : Int))]) :: (c10, 0, [.int .i64 (((a.tr : Nat) : Int)), ka4, kr4]) :: (c8, 0, [.int .i64 0, .nils, .nils]) :: (c5, 0, [.int .i64 (((b.tr : Nat) : Int)), kb, km]) :: (c4, 0, [.int .i64 (((a.tr : Nat) : Int)), ka, kn]) :: (Aa ++ (Ar ++ []))) ++ (Aw ++ [])) M (by first | (simp only [List.append_assoc, List.cons_append, List.nil_append, List.append_nil, List.set_cons_zero, List.set_cons_succ]; done) | (simp only [List.append_assoc, List.cons_append, List.nil_append, List.append_nil, List.set_cons_zero, List.set_cons_succ]; rfl))) hAw sl_S_int rfl rfl rfl rfl (by rw [zC_len]; omega) rfl fun ks99 A99 _ _ K hA99 M => ?_
     replace M := Mem.cast (M := ((c98, 0, [.int .i64 (((k3 : Nat) : Int))]) :: (c10, 0, [.int .i64 (((a.tr : Nat) : Int)), ka4, kr4]) :: (c8, 0, [.int .i64 0, .nils, .nils]) :: (c5, 0, [.int .i64 (((b.tr : Nat) : Int)), kb, km]) :: (c4, 0, [.int .i64 (((a.tr : Nat) : Int)), ka, kn]) :: (Aa ++ (Ar ++ []))) ++ (A99 ++ [])) (M' := ((c98, 0, [.int .i64 (((k3 : Nat) : Int))]) :: (c10, 0, [.int .i64 (((a.tr : Nat) : Int)), ka4, kr4]) :: (c8, 0, [.int .i64 0, .nils, .nils]) :: (c5, 0, [.int .i64 (((b.tr : Nat) : Int)), kb, km]) :: (c4, 0, [.int .i64 (((a.tr : Nat) : Int)), ka, kn]) :: (Aa ++ (Ar ++ (A99 ++ []))))) M (by first | (simp only [List.append_assoc, List.cons_append, List.nil_append, List.append_nil, List.set_cons_zero, List.set_cons_succ]; done) | (simp only [List.append_assoc, List.cons_append, List.nil_append, List.append_nil, List.set_cons_zero, List.set_cons_succ]; rfl))
     refine o1 K (os_assign rfl) rfl fun _ K => wr_nil ?_
     show W _ _ _ _ _ _ _
     refine w_region <| o1 K (os_move rfl) rfl fun _ K => o1 K (os_add rfl rfl (by omega) (by omega)) rfl fun _ K => o1 K (os_assign rfl) rfl fun _ K => wr_nil ?_
     replace B := B.step M
     rw [show (l - lp2.length - 1) = l - lp3.length by have := hnl; first | omega | (simp_all; done) | (simp_all; omega)] at B
     have M := B.mem
     have hgo : goP a b pr61 row.length = (z67, z79) := by unfold goP; rw [hrow, go_row hi64 hi67, go_row hi76 hi79]; rfl
     have hP3 := hnum.pr hP2 (by omega) (show lp2[rows.length]? = some pr61 by rw [hrl]; exact hi61) hgo
     exact ⟨_, (by omega), c + 1, lp3, _, F3, (row ++ [((k3 : Nat) : Int)]), ks99, A99, rfl, (.cons (K _ _ rfl) (.cons (K _ _ rfl) (.cons (K _ _ rfl) (.cons (K _ _ rfl) (.cons (K _ _ rfl) (.cons (K _ _ rfl) (.cons (K _ _ rfl) (.cons (K _ _ rfl) (.cons (K _ _ rfl) (.cons (K _ _ rfl) (.cons (K _ _ rfl) .nil))))))))))), (B.step M).less (.cons _ (.refl _)), hP3, (by rw [List.length_append, hrow]; rfl), (by omega), (by have := hnl; first | omega | (simp_all; done) | (simp_all; omega)), (by rw [hnum.take hi2, htk]), (by rw [zC_app]; exact hA99)⟩
    have hb52 := h52
    replace h52 := of_decide_eq_false h52
    refine w_exit ?_
    show W _ _ _ _ _ _ _
    refine w_seq <| w_region <| o1 K (os_assign rfl) rfl fun _ K => wr_nil ?_
    show W _ _ _ _ _ _ _
    refine w_seq <| w_seq ?_
    refine w_drawI (l := [(0, 0), (1, 0), (2, 0), (3, 0), (4, 0), (5, 0), (6, 0), (7, 0), (8, 0)]) (by kernel_rfl) ?_
    refine d1 rfl K (os_fieldAddr fo_api_Auto_1 rfl) rfl rfl fun _ K => d1 rfl K (os_load rfl (M.load (k := 3) rfl (part_one tk_S_bool rfl))) rfl rfl fun _ K => d1 rfl K (os_move rfl) rfl rfl fun _ K => d1 rfl K (os_move rfl) rfl rfl fun _ K => ?_
    obtain ⟨pr104, hi104⟩ : ∃ x, lp2[i]? = some x := ⟨_, List.getElem?_eq_getElem (by omega)⟩
    have hpb104 := hall2 pr104 (List.mem_of_getElem? hi104)
    obtain ⟨x104, m104, f104, q104, _, la104, lo104, lp104⟩ := (AccAt.rd ((B.step M).at_ (k := 1) rfl)).load (i := i) (cs := _) (prC_get hi104)
    refine d1 rfl K (os_indexAddr (j := i) el_S_sibylref20_pair (congrArg some q104) rfl (by rw [prC_len]; omega)) rfl rfl fun _ K => d1 rfl K (os_fieldAddr fo_sibylref20_pair_0 rfl) rfl rfl fun _ K => d1 rfl K (os_load rfl (lo104 _ 0 _ tk_int rfl)) rfl rfl fun _ K => ?_
    obtain ⟨y107, hi107⟩ : ∃ x, a.acc[pr104.1]? = some x := ⟨_, List.getElem?_eq_getElem (by omega)⟩
    obtain ⟨x107, m107, f107, q107, _, la107, lo107, lp107⟩ := ((hA _ fun c h1 h2 => (B.step M).old c h1 h2).1).load (i := pr104.1) (cs := _) (bC_get hi107)
    refine d1 rfl K (os_indexAddr (j := pr104.1) el_S_bool (congrArg some q107) rfl (by rw [bC_len]; omega)) rfl rfl fun _ K => d1 rfl K (os_load rfl (lo107 _ 0 _ tk_bool rfl)) rfl rfl fun _ K => wd_nil ?_
    show W _ _ _ _ _ _ _
    refine w_cond (K.opd rfl) (fun h108 => ?_) (fun h108 => ?_)
    ·have hb108 := h108
     refine w_region <| o1 K (os_assign rfl) rfl fun _ K => wr_nil ?_
     show W _ _ _ _ _ _ _
     refine w_seq <| w_seq ?_
     refine w_drawI (l := [(0, 0), (1, 0), (2, 0), (3, 0), (4, 0), (5, 0), (6, 0), (7, 0), (8, 0)]) (by kernel_rfl) ?_
     refine d1 rfl K (os_fieldAddr fo_api_Auto_1 rfl) rfl rfl fun _ K => d1 rfl K (os_load rfl (M.load (k := 2) rfl (part_one tk_S_bool rfl))) rfl rfl fun _ K => d1 rfl K (os_move rfl) rfl rfl fun _ K => d1 rfl K (os_move rfl) rfl rfl fun _ K => ?_
     obtain ⟨x113, m113, f113, q113, _, la113, lo113, lp113⟩ := (AccAt.rd ((B.step M).at_ (k := 1) rfl)).load (i := i) (cs := _) (prC_get hi104)
     refine d1 rfl K (os_indexAddr (j := i) el_S_sibylref20_pair (congrArg some q113) rfl (by rw [prC_len]; omega)) rfl rfl fun _ K => d1 rfl K (os_fieldAddr fo_sibylref20_pair_1 rfl) rfl rfl fun _ K => d1 rfl K (os_load rfl (lo113 _ 1 _ tk_int rfl)) rfl rfl fun _ K => ?_
     obtain ⟨y116, hi116⟩ : ∃ x, b.acc[pr104.2]? = some x := ⟨_, List.getElem?_eq_getElem (by omega)⟩
     obtain ⟨x116, m116, f116, q116, _, la116, lo116, lp116⟩ := ((hB _ fun c h1 h2 => (B.step M).old c h1 h2).1).load (i := pr104.2) (cs := _) (bC_get hi116)
     refine d1 rfl K (os_indexAddr (j := pr104.2) el_S_bool (congrArg some q116) rfl (by rw [bC_len]; omega)) rfl rfl fun _ K => d1 rfl K (os_load rfl (lo116 _ 0 _ tk_bool rfl)) rfl rfl fun _ K => wd_nil ?_
     show W _ _ _ _ _ _ _
     refine w_cond (K.opd rfl) (fun h117 => ?_) (fun h117 => ?_)
     ·have hb117 := h117
      refine w_region <| o1 K (os_move rfl) rfl fun _ K => o1 K (os_add rfl rfl (by omega) (by omega)) rfl fun _ K => o1 K (os_assign rfl) rfl fun _ K => wr_nil ?_
      show W _ _ _ _ _ _ _
      refine w_seq <| w_region <| o1 K (os_fieldAddr fo_api_Auto_1 rfl) rfl fun _ K => o1 K (os_load rfl (M.load (k := 0) rfl (part_one tk_S_bool rfl))) rfl fun _ K => o1 K (os_move rfl) rfl fun _ K => o1 K (os_move rfl) rfl fun _ K => o1 K (os_convW (c := (2 + 1)) un_uint un_int rfl (IntWalk.u64_in _ (by omega))) rfl fun _ K => o1 K (os_shrN (a := t) (n := (2 + 1)) rfl rfl (by omega)) rfl fun _ K => o1 K (os_and1 (a := (t / 2 ^ (2 + 1))) rfl rfl (by omega)) rfl fun _ K => ?_
      refine o1 K (os_eqI rfl rfl) rfl fun _ K => ?_
      refine wr_bs K M sl_S_bool ze_bool rfl rfl rfl rfl rfl fun c128 _ _ K M => ?_
      refine wr_acc00 (k2 := 0) (L := [(c128, 0, [.bool (decide (((((t / 2 ^ (2 + 1)) % 2) : Nat) : Int) = 1))]), (c10, 0, [.int .i64 (((a.tr : Nat) : Int)), ka4, kr4]), (c8, 0, [.int .i64 0, .nils, .nils]), (c5, 0, [.int .i64 (((b.tr : Nat) : Int)), kb, km]), (c4, 0, [.int .i64 (((a.tr : Nat) : Int)), ka, kn])]) (A := Aa) (B := (Ar ++ (Aw ++ []))) K M hAa sl_S_bool rfl rfl rfl rfl (by rw [bC_len, List.length_map, List.length_take]; omega) rfl fun ks129 A129 _ _ K hA129 M => ?_
      refine o1 K (os_fieldAddr fo_api_Auto_1 rfl) rfl fun _ K => ?_
      refine wr_store1 (k := 1) K M rfl rfl rfl sz_S_bool (hA129.cell) rfl fun _ M => ?_
      refine wr_nil ?_
      show W _ _ _ _ _ _ _
      refine w_region <| o1 K (os_fieldAddr fo_api_Auto_2 rfl) rfl fun _ K => o1 K (os_load rfl (M.load (k := 1) rfl (part_one tk_S_S_int rfl))) rfl fun _ K => o1 K (os_move rfl) rfl fun _ K => ?_
      refine wr_bs K M sl_S_S_int ze_S_int rfl ((fillA_one rfl hAw.cell rfl).trans rfl) (cl_cons hAw.cell cl_nil) rfl rfl fun c134 _ _ K M => ?_
      refine wr_accX (k2 := 0) (L := ((c134, 0, [kw]) :: (c128, 0, [.bool (decide (((((t / 2 ^ (2 + 1)) % 2) : Nat) : Int) = 1))]) :: (c10, 0, [.int .i64 (((a.tr : Nat) : Int)), ks129, kr4]) :: (c8, 0, [.int .i64 0, .nils, .nils]) :: (c5, 0, [.int .i64 (((b.tr : Nat) : Int)), kb, km]) :: (c4, 0, [.int .i64 (((a.tr : Nat) : Int)), ka, kn]) :: (A129 ++ []))) (A := Ar) (B := (Aw ++ [])) K (Mem.cast (M := ((c134, 0, [kw]) :: (c128, 0, [.bool (decide (((((t / 2 ^ (2 + 1)) % 2) : Nat) : Int) = 1))]) :: (c10, 0, [.int .i64 (((a.tr : Nat) : Int)), ks129, kr4]) :: (c8, 0, [.int .i64 0, .nils, .nils]) :: (c5, 0, [.int .i64 (((b.tr : Nat) : Int)), kb, km]) :: (c4, 0, [.int .i64 (((a.tr : Nat) : Int)), ka, kn]) :: (A129 ++ (Ar ++ (Aw ++ []))))) (M' := ((c134, 0, [kw]) :: (c128, 0, [.bool (decide (((((t / 2 ^ (2 + 1)) % 2) : Nat) : Int) = 1))]) :: (c10, 0, [.int .i64 (((a.tr : Nat) : Int)), ks129, kr4]) :: (c8, 0, [.int .i64 0, .nils, .nils]) :: (c5, 0, [.int .i64 (((b.tr : Nat) : Int)), kb, km]) :: (c4, 0, [.int .i64 (((a.tr : Nat) : Int)), ka, kn]) :: (A129 ++ [])) ++ (Ar ++ (Aw ++ []))) M (by first | (simp only [List.append_assoc, List.cons_append, List.nil_append, List.append_nil, List.set_cons_zero, List.set_cons_succ]; done) | (simp only [List.append_assoc, List.cons_append, List.nil_append, List.append_nil, List.set_cons_zero, List.set_cons_succ]; rfl))) hAr sl_S_S_int rfl rfl rfl (by have := VsAt.ln ((B.step M).at_ (k := 0) rfl); omega) rfl fun ks135 A135 _ _ K hA135 _ M => ?_
      replace M := Mem.cast (M := ((c134, 0, [kw]) :: (c128, 0, [.bool (decide (((((t / 2 ^ (2 + 1)) % 2) : Nat) : Int) = 1))]) :: (c10, 0, [.int .i64 (((a.tr : Nat) : Int)), ks129, kr4]) :: (c8, 0, [.int .i64 0, .nils, .nils]) :: (c5, 0, [.int .i64 (((b.tr : Nat) : Int)), kb, km]) :: (c4, 0, [.int .i64 (((a.tr : Nat) : Int)), ka, kn]) :: (A129 ++ [])) ++ (A135 ++ (Aw ++ []))) (M' := ((c134, 0, [kw]) :: (c128, 0, [.bool (decide (((((t / 2 ^ (2 + 1)) % 2) : Nat) : Int) = 1))]) :: (c10, 0, [.int .i64 (((a.tr : Nat) : Int)), ks129, kr4]) :: (c8, 0, [.int .i64 0, .nils, .nils]) :: (c5, 0, [.int .i64 (((b.tr : Nat) : Int)), kb, km]) :: (c4, 0, [.int .i64 (((a.tr : Nat) : Int)), ka, kn]) :: (A129 ++ (A135 ++ (Aw ++ []))))) M (by first | (simp only [List.append_assoc, List.cons_append, List.nil_append, List.append_nil, List.set_cons_zero, List.set_cons_succ]; done) | (simp only [List.append_assoc, List.cons_append, List.nil_append, List.append_nil, List.set_cons_zero, List.set_cons_succ]; rfl))
      refine o1 K (os_fieldAddr fo_api_Auto_2 rfl) rfl fun _ K => ?_
      refine wr_store1 (k := 2) K M rfl rfl rfl sz_S_S_int (hA135.cell) rfl fun _ M => ?_
      refine wr_nil ?_
      show W _ _ _ _ _ _ _
      refine w_region <| o1 K (os_move rfl) rfl fun _ K => o1 K (os_add rfl rfl (by omega) (by omega)) rfl fun _ K => o1 K (os_assign rfl) rfl fun _ K => wr_nil ?_
      replace B := B.step M
      obtain ⟨Fr, B⟩ := MemO.addRow (L := ((c134, 0, [kw]) :: (c128, 0, [.bool (decide (((((t / 2 ^ (2 + 1)) % 2) : Nat) : Int) = 1))]) :: (c10, 0, [.int .i64 (((a.tr : Nat) : Int)), ks129, ks135]) :: (c8, 0, [.int .i64 0, .nils, .nils]) :: (c5, 0, [.int .i64 (((b.tr : Nat) : Int)), kb, km]) :: (c4, 0, [.int .i64 (((a.tr : Nat) : Int)), ka, kn]) :: (A129 ++ (A135 ++ [])))) (A := Aw) (B := []) (B.cast (by first | (simp only [List.append_assoc, List.cons_append, List.nil_append, List.append_nil, List.set_cons_zero, List.set_cons_succ]; done) | (simp only [List.append_assoc, List.cons_append, List.nil_append, List.append_nil, List.set_cons_zero, List.set_cons_succ]; rfl))) hAw (hP2.in64 hl2)
      replace B := B.cast (M' := ((c134, 0, [kw]) :: (c128, 0, [.bool (decide (((((t / 2 ^ (2 + 1)) % 2) : Nat) : Int) = 1))]) :: (c10, 0, [.int .i64 (((a.tr : Nat) : Int)), ks129, ks135]) :: (c8, 0, [.int .i64 0, .nils, .nils]) :: (c5, 0, [.int .i64 (((b.tr : Nat) : Int)), kb, km]) :: (c4, 0, [.int .i64 (((a.tr : Nat) : Int)), ka, kn]) :: (A129 ++ (A135 ++ [])))) (by first | (simp only [List.append_assoc, List.cons_append, List.nil_append, List.append_nil, List.set_cons_zero, List.set_cons_succ]; done) | (simp only [List.append_assoc, List.cons_append, List.nil_append, List.append_nil, List.set_cons_zero, List.set_cons_succ]; rfl))
      have M := B.mem
      have hi2 := take_same htk (by omega)
      have htq : lp2.take (i + 1) = lp2.take i ++ [pr104] := by rw [List.take_add_one, hi104]; rfl
      have hti : lp2.take i = lp.take i := by have := congrArg (fun l => l.take i) htk; simpa [List.take_take, Nat.min_eq_left] using this
      exact ⟨_, (by omega), i + 1, lp2, kl2, Fl2, (rows ++ [row]), _, _, ks129, A129, ks135, A135, rfl, (.cons (K _ _ rfl) (.cons (K _ _ rfl) (.cons (K _ _ rfl) (.cons (K _ _ rfl) (.cons (K _ _ rfl) (.cons (K _ _ rfl) (.cons (K _ _ rfl) (.cons (K _ _ rfl) .nil)))))))), (B.step M).less (.cons _ (.cons _ (.refl _))), (hP2.whole (by omega)), (by rw [List.length_append, hrl]; rfl), hi2, hl2, (by rw [htq, hti, List.map_append, bC_app, show bC ([pr104].map (okP a b t)) = [[AV.bool (okP a b t pr104)]] from rfl, show AV.bool (okP a b t pr104) = .bool (decide (((((t / 2 ^ (2 + 1)) % 2) : Nat) : Int) = 1)) from congrArg AV.bool (by unfold okP; rw [ok_at2 hi107, ok_at2 hi116]; unfold tabP; first | (rw [h108, h117]; exact tab_dec _) | (simp_all; done))]; exact hA129), hA135⟩
     have hb117 := h117
     refine w_skip ?_
     show W _ _ _ _ _ _ _
     refine w_seq <| w_region <| o1 K (os_fieldAddr fo_api_Auto_1 rfl) rfl fun _ K => o1 K (os_load rfl (M.load (k := 0) rfl (part_one tk_S_bool rfl))) rfl fun _ K => o1 K (os_move rfl) rfl fun _ K => o1 K (os_move rfl) rfl fun _ K => o1 K (os_convI un_uint un_int rfl) rfl fun _ K => o1 K (os_shrN (a := t) (n := 2) rfl rfl (by omega)) rfl fun _ K => o1 K (os_and1 (a := (t / 2 ^ 2)) rfl rfl (by omega)) rfl fun _ K => ?_
     refine o1 K (os_eqI rfl rfl) rfl fun _ K => ?_
     refine wr_bs K M sl_S_bool ze_bool rfl rfl rfl rfl rfl fun c128 _ _ K M => ?_
     refine wr_acc00 (k2 := 0) (L := [(c128, 0, [.bool (decide (((((t / 2 ^ 2) % 2) : Nat) : Int) = 1))]), (c10, 0, [.int .i64 (((a.tr : Nat) : Int)), ka4, kr4]), (c8, 0, [.int .i64 0, .nils, .nils]), (c5, 0, [.int .i64 (((b.tr : Nat) : Int)), kb, km]), (c4, 0, [.int .i64 (((a.tr : Nat) : Int)), ka, kn])]) (A := Aa) (B := (Ar ++ (Aw ++ []))) K M hAa sl_S_bool rfl rfl rfl rfl (by rw [bC_len, List.length_map, List.length_take]; omega) rfl fun ks129 A129 _ _ K hA129 M => ?_
     refine o1 K (os_fieldAddr fo_api_Auto_1 rfl) rfl fun _ K => ?_
     refine wr_store1 (k := 1) K M rfl rfl rfl sz_S_bool (hA129.cell) rfl fun _ M => ?_
     refine wr_nil ?_
     show W _ _ _ _ _ _ _
     refine w_region <| o1 K (os_fieldAddr fo_api_Auto_2 rfl) rfl fun _ K => o1 K (os_load rfl (M.load (k := 1) rfl (part_one tk_S_S_int rfl))) rfl fun _ K => o1 K (os_move rfl) rfl fun _ K => ?_
     refine wr_bs K M sl_S_S_int ze_S_int rfl ((fillA_one rfl hAw.cell rfl).trans rfl) (cl_cons hAw.cell cl_nil) rfl rfl fun c134 _ _ K M => ?_
     refine wr_accX (k2 := 0) (L := ((c134, 0, [kw]) :: (c128, 0, [.bool (decide (((((t / 2 ^ 2) % 2) : Nat) : Int) = 1))]) :: (c10, 0, [.int .i64 (((a.tr : Nat) : Int)), ks129, kr4]) :: (c8, 0, [.int .i64 0, .nils, .nils]) :: (c5, 0, [.int .i64 (((b.tr : Nat) : Int)), kb, km]) :: (c4, 0, [.int .i64 (((a.tr : Nat) : Int)), ka, kn]) :: (A129 ++ []))) (A := Ar) (B := (Aw ++ [])) K (Mem.cast (M := ((c134, 0, [kw]) :: (c128, 0, [.bool (decide (((((t / 2 ^ 2) % 2) : Nat) : Int) = 1))]) :: (c10, 0, [.int .i64 (((a.tr : Nat) : Int)), ks129, kr4]) :: (c8, 0, [.int .i64 0, .nils, .nils]) :: (c5, 0, [.int .i64 (((b.tr : Nat) : Int)), kb, km]) :: (c4, 0, [.int .i64 (((a.tr : Nat) : Int)), ka, kn]) :: (A129 ++ (Ar ++ (Aw ++ []))))) (M' := ((c134, 0, [kw]) :: (c128, 0, [.bool (decide (((((t / 2 ^ 2) % 2) : Nat) : Int) = 1))]) :: (c10, 0, [.int .i64 (((a.tr : Nat) : Int)), ks129, kr4]) :: (c8, 0, [.int .i64 0, .nils, .nils]) :: (c5, 0, [.int .i64 (((b.tr : Nat) : Int)), kb, km]) :: (c4, 0, [.int .i64 (((a.tr : Nat) : Int)), ka, kn]) :: (A129 ++ [])) ++ (Ar ++ (Aw ++ []))) M (by first | (simp only [List.append_assoc, List.cons_append, List.nil_append, List.append_nil, List.set_cons_zero, List.set_cons_succ]; done) | (simp only [List.append_assoc, List.cons_append, List.nil_append, List.append_nil, List.set_cons_zero, List.set_cons_succ]; rfl))) hAr sl_S_S_int rfl rfl rfl (by have := VsAt.ln ((B.step M).at_ (k := 0) rfl); omega) rfl fun ks135 A135 _ _ K hA135 _ M => ?_
     replace M := Mem.cast (M := ((c134, 0, [kw]) :: (c128, 0, [.bool (decide (((((t / 2 ^ 2) % 2) : Nat) : Int) = 1))]) :: (c10, 0, [.int .i64 (((a.tr : Nat) : Int)), ks129, kr4]) :: (c8, 0, [.int .i64 0, .nils, .nils]) :: (c5, 0, [.int .i64 (((b.tr : Nat) : Int)), kb, km]) :: (c4, 0, [.int .i64 (((a.tr : Nat) : Int)), ka, kn]) :: (A129 ++ [])) ++ (A135 ++ (Aw ++ []))) (M' := ((c134, 0, [kw]) :: (c128, 0, [.bool (decide (((((t / 2 ^ 2) % 2) : Nat) : Int) = 1))]) :: (c10, 0, [.int .i64 (((a.tr : Nat) : Int)), ks129, kr4]) :: (c8, 0, [.int .i64 0, .nils, .nils]) :: (c5, 0, [.int .i64 (((b.tr : Nat) : Int)), kb, km]) :: (c4, 0, [.int .i64 (((a.tr : Nat) : Int)), ka, kn]) :: (A129 ++ (A135 ++ (Aw ++ []))))) M (by first | (simp only [List.append_assoc, List.cons_append, List.nil_append, List.append_nil, List.set_cons_zero, List.set_cons_succ]; done) | (simp only [List.append_assoc, List.cons_append, List.nil_append, List.append_nil, List.set_cons_zero, List.set_cons_succ]; rfl))
     refine o1 K (os_fieldAddr fo_api_Auto_2 rfl) rfl fun _ K => ?_
     refine wr_store1 (k := 2) K M rfl rfl rfl sz_S_S_int (hA135.cell) rfl fun _ M => ?_
     refine wr_nil ?_
     show W _ _ _ _ _ _ _
     refine w_region <| o1 K (os_move rfl) rfl fun _ K => o1 K (os_add rfl rfl (by omega) (by omega)) rfl fun _ K => o1 K (os_assign rfl) rfl fun _ K => wr_nil ?_
     replace B := B.step M
     obtain ⟨Fr, B⟩ := MemO.addRow (L := ((c134, 0, [kw]) :: (c128, 0, [.bool (decide (((((t / 2 ^ 2) % 2) : Nat) : Int) = 1))]) :: (c10, 0, [.int .i64 (((a.tr : Nat) : Int)), ks129, ks135]) :: (c8, 0, [.int .i64 0, .nils, .nils]) :: (c5, 0, [.int .i64 (((b.tr : Nat) : Int)), kb, km]) :: (c4, 0, [.int .i64 (((a.tr : Nat) : Int)), ka, kn]) :: (A129 ++ (A135 ++ [])))) (A := Aw) (B := []) (B.cast (by first | (simp only [List.append_assoc, List.cons_append, List.nil_append, List.append_nil, List.set_cons_zero, List.set_cons_succ]; done) | (simp only [List.append_assoc, List.cons_append, List.nil_append, List.append_nil, List.set_cons_zero, List.set_cons_succ]; rfl))) hAw (hP2.in64 hl2)
     replace B := B.cast (M' := ((c134, 0, [kw]) :: (c128, 0, [.bool (decide (((((t / 2 ^ 2) % 2) : Nat) : Int) = 1))]) :: (c10, 0, [.int .i64 (((a.tr : Nat) : Int)), ks129, ks135]) :: (c8, 0, [.int .i64 0, .nils, .nils]) :: (c5, 0, [.int .i64 (((b.tr : Nat) : Int)), kb, km]) :: (c4, 0, [.int .i64 (((a.tr : Nat) : Int)), ka, kn]) :: (A129 ++ (A135 ++ [])))) (by first | (simp only [List.append_assoc, List.cons_append, List.nil_append, List.append_nil, List.set_cons_zero, List.set_cons_succ]; done) | (simp only [List.append_assoc, List.cons_append, List.nil_append, List.append_nil, List.set_cons_zero, List.set_cons_succ]; rfl))
     have M := B.mem
     have hi2 := take_same htk (by omega)
     have htq : lp2.take (i + 1) = lp2.take i ++ [pr104] := by rw [List.take_add_one, hi104]; rfl
     have hti : lp2.take i = lp.take i := by have := congrArg (fun l => l.take i) htk; simpa [List.take_take, Nat.min_eq_left] using this
     exact ⟨_, (by omega), i + 1, lp2, kl2, Fl2, (rows ++ [row]), _, _, ks129, A129, ks135, A135, rfl, (.cons (K _ _ rfl) (.cons (K _ _ rfl) (.cons (K _ _ rfl) (.cons (K _ _ rfl) (.cons (K _ _ rfl) (.cons (K _ _ rfl) (.cons (K _ _ rfl) (.cons (K _ _ rfl) .nil)))))))), (B.step M).less (.cons _ (.cons _ (.refl _))), (hP2.whole (by omega)), (by rw [List.length_append, hrl]; rfl), hi2, hl2, (by rw [htq, hti, List.map_append, bC_app, show bC ([pr104].map (okP a b t)) = [[AV.bool (okP a b t pr104)]] from rfl, show AV.bool (okP a b t pr104) = .bool (decide (((((t / 2 ^ 2) % 2) : Nat) : Int) = 1)) from congrArg AV.bool (by unfold okP; rw [ok_at2 hi107, ok_at2 hi116]; unfold tabP; first | (rw [h108, h117]; exact tab_dec _) | (simp_all; done))]; exact hA129), hA135⟩
    have hb108 := h108
    refine w_skip ?_
    show W _ _ _ _ _ _ _
    refine w_seq <| w_seq ?_
    refine w_drawI (l := [(0, 0), (1, 0), (2, 0), (3, 0), (4, 0), (5, 0), (6, 0), (7, 0), (8, 0)]) (by kernel_rfl) ?_
    refine d1 rfl K (os_fieldAddr fo_api_Auto_1 rfl) rfl rfl fun _ K => d1 rfl K (os_load rfl (M.load (k := 2) rfl (part_one tk_S_bool rfl))) rfl rfl fun _ K => d1 rfl K (os_move rfl) rfl rfl fun _ K => d1 rfl K (os_move rfl) rfl rfl fun _ K => ?_
    obtain ⟨x113, m113, f113, q113, _, la113, lo113, lp113⟩ := (AccAt.rd ((B.step M).at_ (k := 1) rfl)).load (i := i) (cs := _) (prC_get hi104)
    refine d1 rfl K (os_indexAddr (j := i) el_S_sibylref20_pair (congrArg some q113) rfl (by rw [prC_len]; omega)) rfl rfl fun _ K => d1 rfl K (os_fieldAddr fo_sibylref20_pair_1 rfl) rfl rfl fun _ K => d1 rfl K (os_load rfl (lo113 _ 1 _ tk_int rfl)) rfl rfl fun _ K => ?_
    obtain ⟨y116, hi116⟩ : ∃ x, b.acc[pr104.2]? = some x := ⟨_, List.getElem?_eq_getElem (by omega)⟩
    obtain ⟨x116, m116, f116, q116, _, la116, lo116, lp116⟩ := ((hB _ fun c h1 h2 => (B.step M).old c h1 h2).1).load (i := pr104.2) (cs := _) (bC_get hi116)
    refine d1 rfl K (os_indexAddr (j := pr104.2) el_S_bool (congrArg some q116) rfl (by rw [bC_len]; omega)) rfl rfl fun _ K => d1 rfl K (os_load rfl (lo116 _ 0 _ tk_bool rfl)) rfl rfl fun _ K => wd_nil ?_
    show W _ _ _ _ _ _ _
    refine w_cond (K.opd rfl) (fun h117 => ?_) (fun h117 => ?_)
    ·have hb117 := h117
     refine w_region <| o1 K (os_move rfl) rfl fun _ K => o1 K (os_add rfl rfl (by omega) (by omega)) rfl fun _ K => o1 K (os_assign rfl) rfl fun _ K => wr_nil ?_
     show W _ _ _ _ _ _ _
     refine w_seq <| w_region <| o1 K (os_fieldAddr fo_api_Auto_1 rfl) rfl fun _ K => o1 K (os_load rfl (M.load (k := 0) rfl (part_one tk_S_bool rfl))) rfl fun _ K => o1 K (os_move rfl) rfl fun _ K => o1 K (os_move rfl) rfl fun _ K => o1 K (os_convW (c := (0 + 1)) un_uint un_int rfl (IntWalk.u64_in _ (by omega))) rfl fun _ K => o1 K (os_shrN (a := t) (n := (0 + 1)) rfl rfl (by omega)) rfl fun _ K => o1 K (os_and1 (a := (t / 2 ^ (0 + 1))) rfl rfl (by omega)) rfl fun _ K => ?_
     refine o1 K (os_eqI rfl rfl) rfl fun _ K => ?_
     refine wr_bs K M sl_S_bool ze_bool rfl rfl rfl rfl rfl fun c128 _ _ K M => ?_
     refine wr_acc00 (k2 := 0) (L := [(c128, 0, [.bool (decide (((((t / 2 ^ (0 + 1)) % 2) : Nat) : Int) = 1))]), (c10, 0, [.int .i64 (((a.tr : Nat) : Int)), ka4, kr4]), (c8, 0, [.int .i64 0, .nils, .nils]), (c5, 0, [.int .i64 (((b.tr : Nat) : Int)), kb, km]), (c4, 0, [.int .i64 (((a.tr : Nat) : Int)), ka, kn])]) (A := Aa) (B := (Ar ++ (Aw ++ []))) K M hAa sl_S_bool rfl rfl rfl rfl (by rw [bC_len, List.length_map, List.length_take]; omega) rfl fun ks129 A129 _ _ K hA129 M => ?_
     refine o1 K (os_fieldAddr fo_api_Auto_1 rfl) rfl fun _ K => ?_
     refine wr_store1 (k := 1) K M rfl rfl rfl sz_S_bool (hA129.cell) rfl fun _ M => ?_
     refine wr_nil ?_
     show W _ _ _ _ _ _ _
     refine w_region <| o1 K (os_fieldAddr fo_api_Auto_2 rfl) rfl fun _ K => o1 K (os_load rfl (M.load (k := 1) rfl (part_one tk_S_S_int rfl))) rfl fun _ K => o1 K (os_move rfl) rfl fun _ K => ?_
     refine wr_bs K M sl_S_S_int ze_S_int rfl ((fillA_one rfl hAw.cell rfl).trans rfl) (cl_cons hAw.cell cl_nil) rfl rfl fun c134 _ _ K M => ?_
     refine wr_accX (k2 := 0) (L := ((c134, 0, [kw]) :: (c128, 0, [.bool (decide (((((t / 2 ^ (0 + 1)) % 2) : Nat) : Int) = 1))]) :: (c10, 0, [.int .i64 (((a.tr : Nat) : Int)), ks129, kr4]) :: (c8, 0, [.int .i64 0, .nils, .nils]) :: (c5, 0, [.int .i64 (((b.tr : Nat) : Int)), kb, km]) :: (c4, 0, [.int .i64 (((a.tr : Nat) : Int)), ka, kn]) :: (A129 ++ []))) (A := Ar) (B := (Aw ++ [])) K (Mem.cast (M := ((c134, 0, [kw]) :: (c128, 0, [.bool (decide (((((t / 2 ^ (0 + 1)) % 2) : Nat) : Int) = 1))]) :: (c10, 0, [.int .i64 (((a.tr : Nat) : Int)), ks129, kr4]) :: (c8, 0, [.int .i64 0, .nils, .nils]) :: (c5, 0, [.int .i64 (((b.tr : Nat) : Int)), kb, km]) :: (c4, 0, [.int .i64 (((a.tr : Nat) : Int)), ka, kn]) :: (A129 ++ (Ar ++ (Aw ++ []))))) (M' := ((c134, 0, [kw]) :: (c128, 0, [.bool (decide (((((t / 2 ^ (0 + 1)) % 2) : Nat) : Int) = 1))]) :: (c10, 0, [.int .i64 (((a.tr : Nat) : Int)), ks129, kr4]) :: (c8, 0, [.int .i64 0, .nils, .nils]) :: (c5, 0, [.int .i64 (((b.tr : Nat) : Int)), kb, km]) :: (c4, 0, [.int .i64 (((a.tr : Nat) : Int)), ka, kn]) :: (A129 ++ [])) ++ (Ar ++ (Aw ++ []))) M (by first | (simp only [List.append_assoc, List.cons_append, List.nil_append, List.append_nil, List.set_cons_zero, List.set_cons_succ]; done) | (simp only [List.append_assoc, List.cons_append, List.nil_append, List.append_nil, List.set_cons_zero, List.set_cons_succ]; rfl))) hAr sl_S_S_int rfl rfl rfl (by have := VsAt.ln ((B.step M).at_ (k := 0) rfl); omega) rfl fun ks135 A135 _ _ K hA135 _ M => ?_
     replace M := Mem.cast (M := ((c134, 0, [kw]) :: (c128, 0, [.bool (decide (((((t / 2 ^ (0 + 1)) % 2) : Nat) : Int) = 1))]) :: (c10, 0, [.int .i64 (((a.tr : Nat) : Int)), ks129, kr4]) :: (c8, 0, [.int .i64 0, .nils, .nils]) :: (c5, 0, [.int .i64 (((b.tr : Nat) : Int)), kb, km]) :: (c4, 0, [.int .i64 (((a.tr : Nat) : Int)), ka, kn]) :: (A129 ++ [])) ++ (A135 ++ (Aw ++ []))) (M' := ((c134, 0, [kw]) :: (c128, 0, [.bool (decide (((((t / 2 ^ (0 + 1)) % 2) : Nat) : Int) = 1))]) :: (c10, 0, [.int .i64 (((a.tr : Nat) : Int)), ks129, kr4]) :: (c8, 0, [.int .i64 0, .nils, .nils]) :: (c5, 0, [.int .i64 (((b.tr : Nat) : Int)), kb, km]) :: (c4, 0, [.int .i64 (((a.tr : Nat) : Int)), ka, kn]) :: (A129 ++ (A135 ++ (Aw ++ []))))) M (by first | (simp only [List.append_assoc, List.cons_append, List.nil_append, List.append_nil, List.set_cons_zero, List.set_cons_succ]; done) | (simp only [List.append_assoc, List.cons_append, List.nil_append, List.append_nil, List.set_cons_zero, List.set_cons_succ]; rfl))
     refine o1 K (os_fieldAddr fo_api_Auto_2 rfl) rfl fun _ K => ?_
     refine wr_store1 (k := 2) K M rfl rfl rfl sz_S_S_int (hA135.cell) rfl fun _ M => ?_
     refine wr_nil ?_
     show W _ _ _ _ _ _ _
     refine w_region <| o1 K (os_move rfl) rfl fun _ K => o1 K (os_add rfl rfl (by omega) (by omega)) rfl fun _ K => o1 K (os_assign rfl) rfl fun _ K => wr_nil ?_
     replace B := B.step M
     obtain ⟨Fr, B⟩ := MemO.addRow (L := ((c134, 0, [kw]) :: (c128, 0, [.bool (decide (((((t / 2 ^ (0 + 1)) % 2) : Nat) : Int) = 1))]) :: (c10, 0, [.int .i64 (((a.tr : Nat) : Int)), ks129, ks135]) :: (c8, 0, [.int .i64 0, .nils, .nils]) :: (c5, 0, [.int .i64 (((b.tr : Nat) : Int)), kb, km]) :: (c4, 0, [.int .i64 (((a.tr : Nat) : Int)), ka, kn]) :: (A129 ++ (A135 ++ [])))) (A := Aw) (B := []) (B.cast (by first | (simp only [List.append_assoc, List.cons_append, List.nil_append, List.append_nil, List.set_cons_zero, List.set_cons_succ]; done) | (simp only [List.append_assoc, List.cons_append, List.nil_append, List.append_nil, List.set_cons_zero, List.set_cons_succ]; rfl))) hAw (hP2.in64 hl2)
     replace B := B.cast (M' := ((c134, 0, [kw]) :: (c128, 0, [.bool (decide (((((t / 2 ^ (0 + 1)) % 2) : Nat) : Int) = 1))]) :: (c10, 0, [.int .i64 (((a.tr : Nat) : Int)), ks129, ks135]) :: (c8, 0, [.int .i64 0, .nils, .nils]) :: (c5, 0, [.int .i64 (((b.tr : Nat) : Int)), kb, km]) :: (c4, 0, [.int .i64 (((a.tr : Nat) : Int)), ka, kn]) :: (A129 ++ (A135 ++ [])))) (by first | (simp only [List.append_assoc, List.cons_append, List.nil_append, List.append_nil, List.set_cons_zero, List.set_cons_succ]; done) | (simp only [List.append_assoc, List.cons_append, List.nil_append, List.append_nil, List.set_cons_zero, List.set_cons_succ]; rfl))
     have M := B.mem
     have hi2 := take_same htk (by omega)
     have htq : lp2.take (i + 1) = lp2.take i ++ [pr104] := by rw [List.take_add_one, hi104]; rfl
     have hti : lp2.take i = lp.take i := by have := congrArg (fun l => l.take i) htk; simpa [List.take_take, Nat.min_eq_left] using this
     exact ⟨_, (by omega), i + 1, lp2, kl2, Fl2, (rows ++ [row]), _, _, ks129, A129, ks135, A135, rfl, (.cons (K _ _ rfl) (.cons (K _ _ rfl) (.cons (K _ _ rfl) (.cons (K _ _ rfl) (.cons (K _ _ rfl) (.cons (K _ _ rfl) (.cons (K _ _ rfl) (.cons (K _ _ rfl) .nil)))))))), (B.step M).less (.cons _ (.cons _ (.refl _))), (hP2.whole (by omega)), (by rw [List.length_append, hrl]; rfl), hi2, hl2, (by rw [htq, hti, List.map_append, bC_app, show bC ([pr104].map (okP a b t)) = [[AV.bool (okP a b t pr104)]] from rfl, show AV.bool (okP a b t pr104) = .bool (decide (((((t / 2 ^ (0 + 1)) % 2) : Nat) : Int) = 1)) from congrArg AV.bool (by unfold okP; rw [ok_at2 hi107, ok_at2 hi116]; unfold tabP; first | (rw [h108, h117]; exact tab_dec _) | (simp_all; done))]; exact hA129), hA135⟩
    have hb117 := h117
    refine w_skip ?_
    show W _ _ _ _ _ _ _
    refine w_seq <| w_region <| o1 K (os_fieldAddr fo_api_Auto_1 rfl) rfl fun _ K => o1 K (os_load rfl (M.load (k := 0) rfl (part_one tk_S_bool rfl))) rfl fun _ K => o1 K (os_move rfl) rfl fun _ K => o1 K (os_move rfl) rfl fun _ K => o1 K (os_convI un_uint un_int rfl) rfl fun _ K => o1 K (os_shrN (a := t) (n := 0) rfl rfl (by omega)) rfl fun _ K => o1 K (os_and1 (a := (t / 2 ^ 0)) rfl rfl (by omega)) rfl fun _ K => ?_
    refine o1 K (os_eqI rfl rfl) rfl fun _ K => ?_
    refine wr_bs K M sl_S_bool ze_bool rfl rfl rfl rfl rfl fun c128 _ _ K M => ?_
    refine wr_acc00 (k2 := 0) (L := [(c128, 0, [.bool (decide (((((t / 2 ^ 0) % 2) : Nat) : Int) = 1))]), (c10, 0, [.int .i64 (((a.tr : Nat) : Int)), ka4, kr4]), (c8, 0, [.int .i64 0, .nils, .nils]), (c5, 0, [.int .i64 (((b.tr : Nat) : Int)), kb, km]), (c4, 0, [.int .i64 (((a.tr : Nat) : Int)), ka, kn])]) (A := Aa) (B := (Ar ++ (Aw ++ []))) K M hAa sl_S_bool rfl rfl rfl rfl (by rw [bC_len, List.length_map, List.length_take]; omega) rfl fun ks129 A129 _ _ K hA129 M => ?_
    refine o1 K (os_fieldAddr fo_api_Auto_1 rfl) rfl fun _ K => ?_
    refine wr_store1 (k := 1) K M rfl rfl rfl sz_S_bool (hA129.cell) rfl fun _ M => ?_
    refine wr_nil ?_
    show W _ _ _ _ _ _ _
    refine w_region <| o1 K (os_fieldAddr fo_api_Auto_2 rfl) rfl fun _ K => o1 K (os_load rfl (M.load (k := 1) rfl (part_one tk_S_S_int rfl))) rfl fun _ K => o1 K (os_move rfl) rfl fun _ K => ?_
    refine wr_bs K M sl_S_S_int ze_S_int rfl ((fillA_one rfl hAw.cell rfl).trans rfl) (cl_cons hAw.cell cl_nil) rfl rfl fun c134 _ _ K M => ?_
    refine wr_accX (k2 := 0) (L := ((c134, 0, [kw]) :: (c128, 0, [.bool (decide (((((t / 2 ^ 0) % 2) : Nat) : Int) = 1))]) :: (c10, 0, [.int .i64 (((a.tr : Nat) : Int)), ks129, kr4]) :: (c8, 0, [.int .i64 0, .nils, .nils]) :: (c5, 0, [.int .i64 (((b.tr : Nat) : Int)), kb, km]) :: (c4, 0, [.int .i64 (((a.tr : Nat) : Int)), ka, kn]) :: (A129 ++ []))) (A := Ar) (B := (Aw ++ [])) K (Mem.cast (M := ((c134, 0, [kw]) :: (c128, 0, [.bool (decide (((((t / 2 ^ 0) % 2) : Nat) : Int) = 1))]) :: (c10, 0, [.int .i64 (((a.tr : Nat) : Int)), ks129, kr4]) :: (c8, 0, [.int .i64 0, .nils, .nils]) :: (c5, 0, [.int .i64 (((b.tr : Nat) : Int)), kb, km]) :: (c4, 0, [.int .i64 (((a.tr : Nat) : Int)), ka, kn]) :: (A129 ++ (Ar ++ (Aw ++ []))))) (M' := ((c134, 0, [kw]) :: (c128, 0, [.bool (decide (((((t / 2 ^ 0) % 2) : Nat) : Int) = 1))]) :: (c10, 0, [.int .i64 (((a.tr : Nat) : Int)), ks129, kr4]) :: (c8, 0, [.int .i64 0, .nils, .nils]) :: (c5, 0, [.int .i64 (((b.tr : Nat) : Int)), kb, km]) :: (c4, 0, [.int .i64 (((a.tr : Nat) : Int)), ka, kn]) :: (A129 ++ [])) ++ (Ar ++ (Aw ++ []))) M (by first | (simp only [List.append_assoc, List.cons_append, List.nil_append, List.append_nil, List.set_cons_zero, List.set_cons_succ]; done) | (simp only [List.append_assoc, List.cons_append, List.nil_append, List.append_nil, List.set_cons_zero, List.set_cons_succ]; rfl))) hAr sl_S_S_int rfl rfl rfl (by have := VsAt.ln ((B.step M).at_ (k := 0) rfl); omega) rfl fun ks135 A135 _ _ K hA135 _ M => ?_
    replace M := Mem.cast (M := ((c134, 0, [kw]) :: (c128, 0, [.bool (decide (((((t / 2 ^ 0) % 2) : Nat) : Int) = 1))]) :: (c10, 0, [.int .i64 (((a.tr : Nat) : Int)), ks129, kr4]) :: (c8, 0, [.int .i64 0, .nils, .nils]) :: (c5, 0, [.int .i64 (((b.tr : Nat) : Int)), kb, km]) :: (c4, 0, [.int .i64 (((a.tr : Nat) : Int)), ka, kn]) :: (A129 ++ [])) ++ (A135 ++ (Aw ++ []))) (M' := ((c134, 0, [kw]) :: (c128, 0, [.bool (decide (((((t / 2 ^ 0) % 2) : Nat) : Int) = 1))]) :: (c10, 0, [.int .i64 (((a.tr : Nat) : Int)), ks129, kr4]) :: (c8, 0, [.int .i64 0, .nils, .nils]) :: (c5, 0, [.int .i64 (((b.tr : Nat) : Int)), kb, km]) :: (c4, 0, [.int .i64 (((a.tr : Nat) : Int)), ka, kn]) :: (A129 ++ (A135 ++ (Aw ++ []))))) M (by first | (simp only [List.append_assoc, List.cons_append, List.nil_append, List.append_nil, List.set_cons_zero, List.set_cons_succ]; done) | (simp only [List.append_assoc, List.cons_append, List.nil_append, List.append_nil, List.set_cons_zero, List.set_cons_succ]; rfl))
    refine o1 K (os_fieldAddr fo_api_Auto_2 rfl) rfl fun _ K => ?_
    refine wr_store1 (k := 2) K M rfl rfl rfl sz_S_S_int (hA135.cell) rfl fun _ M => ?_
    refine wr_nil ?_
    show W _ _ _ _ _ _ _
    refine w_region <| o1 K (os_move rfl) rfl fun _ K => o1 K (os_add rfl rfl (by omega) (by omega)) rfl fun _ K => o1 K (os_assign rfl) rfl fun _ K => wr_nil ?_
    replace B := B.step M
    obtain ⟨Fr, B⟩ := MemO.addRow (L := ((c134, 0, [kw]) :: (c128, 0, [.bool (decide (((((t / 2 ^ 0) % 2) : Nat) : Int) = 1))]) :: (c10, 0, [.int .i64 (((a.tr : Nat) : Int)), ks129, ks135]) :: (c8, 0, [.int .i64 0, .nils, .nils]) :: (c5, 0, [.int .i64 (((b.tr : Nat) : Int)), kb, km]) :: (c4, 0, [.int .i64 (((a.tr : Nat) : Int)), ka, kn]) :: (A129 ++ (A135 ++ [])))) (A := Aw) (B := []) (B.cast (by first | (simp only [List.append_assoc, List.cons_append, List.nil_append, List.append_nil, List.set_cons_zero, List.set_cons_succ]; done) | (simp only [List.append_assoc, List.cons_append, List.nil_append, List.append_nil, List.set_cons_zero, List.set_cons_succ]; rfl))) hAw (hP2.in64 hl2)
    replace B := B.cast (M' := ((c134, 0, [kw]) :: (c128, 0, [.bool (decide (((((t / 2 ^ 0) % 2) : Nat) : Int) = 1))]) :: (c10, 0, [.int .i64 (((a.tr : Nat) : Int)), ks129, ks135]) :: (c8, 0, [.int .i64 0, .nils, .nils]) :: (c5, 0, [.int .i64 (((b.tr : Nat) : Int)), kb, km]) :: (c4, 0, [.int .i64 (((a.tr : Nat) : Int)), ka, kn]) :: (A129 ++ (A135 ++ [])))) (by first | (simp only [List.append_assoc, List.cons_append, List.nil_append, List.append_nil, List.set_cons_zero, List.set_cons_succ]; done) | (simp only [List.append_assoc, List.cons_append, List.nil_append, List.append_nil, List.set_cons_zero, List.set_cons_succ]; rfl))
    have M := B.mem
    have hi2 := take_same htk (by omega)
    have htq : lp2.take (i + 1) = lp2.take i ++ [pr104] := by rw [List.take_add_one, hi104]; rfl
    have hti : lp2.take i = lp.take i := by have := congrArg (fun l => l.take i) htk; simpa [List.take_take, Nat.min_eq_left] using this
    exact ⟨_, (by omega), i + 1, lp2, kl2, Fl2, (rows ++ [row]), _, _, ks129, A129, ks135, A135, rfl, (.cons (K _ _ rfl) (.cons (K _ _ rfl) (.cons (K _ _ rfl) (.cons (K _ _ rfl) (.cons (K _ _ rfl) (.cons (K _ _ rfl) (.cons (K _ _ rfl) (.cons (K _ _ rfl) .nil)))))))), (B.step M).less (.cons _ (.cons _ (.refl _))), (hP2.whole (by omega)), (by rw [List.length_append, hrl]; rfl), hi2, hl2, (by rw [htq, hti, List.map_append, bC_app, show bC ([pr104].map (okP a b t)) = [[AV.bool (okP a b t pr104)]] from rfl, show AV.bool (okP a b t pr104) = .bool (decide (((((t / 2 ^ 0) % 2) : Nat) : Int) = 1)) from congrArg AV.bool (by unfold okP; rw [ok_at2 hi107, ok_at2 hi116]; unfold tabP; first | (rw [h108, h117]; exact tab_dec _) | (simp_all; done))]; exact hA129), hA135⟩
   have hb44 := h44
   replace h44 := of_decide_eq_false h44
   refine w_exit ?_
   show W _ _ _ _ _ _ _
   refine w_seq <| w_region <| o1 K (os_load rfl (M.load (k := 0) rfl (part_agg tk_api_Auto rfl))) rfl fun _ K => ?_
   refine wr_store (k := 1) K M rfl rfl rfl sz_api_Auto rfl (cl_cons rfl (cl_cons hAa.cell (cl_cons hAr.cell cl_nil))) rfl fun _ M => ?_
   refine o1 K (os_assign rfl) rfl fun _ K => wr_nil ?_
   show W _ _ _ _ _ _ _
   refine w_ret ?_
   refine ⟨.inr rfl, _, (res_two (rs_cell K rfl (M.load (k := 1) rfl (part_agg tk_api_Auto rfl))) (rs_tmp K rfl)), ?_⟩
   have hlt : lp.take i = lp := List.take_of_length_le (by omega)
   rw [hlt] at hAa
   have hMd := hP.made (p := okP a b t) (m := ⟨a.tr, lp.map (okP a b t), rows⟩) (by show rows.length = _; omega) rfl htr hlp
   replace B := B.step M
   have hmt : Row1 _ mp 0 [.int .i64 ((l - lp.length : Nat) : Int), .bool false] := B.at_ (k := 2) rfl
   obtain ⟨F', B'⟩ := MemO.toLs (L := ((c10, 0, [.int .i64 (((a.tr : Nat) : Int)), ka4, kr4]) :: (c8, 0, [.int .i64 (((a.tr : Nat) : Int)), ka4, kr4]) :: (c5, 0, [.int .i64 (((b.tr : Nat) : Int)), kb, km]) :: (c4, 0, [.int .i64 (((a.tr : Nat) : Int)), ka, kn]) :: Aa)) (A := Ar) (B := []) (B.cast (by first | (simp only [List.append_assoc, List.cons_append, List.nil_append, List.append_nil, List.set_cons_zero, List.set_cons_succ]; done) | (simp only [List.append_assoc, List.cons_append, List.nil_append, List.append_nil, List.set_cons_zero, List.set_cons_succ]; rfl))) hAr
   exact ⟨.inl ⟨_, lp, _, rfl, ⟨hMd, rfl⟩, MemO.toNewAuX (a := ⟨a.tr, lp.map (okP a b t), rows⟩) (om := mtO mp (l - lp.length) false) (M := [(c10, 0, [.int .i64 (((a.tr : Nat) : Int)), ka4, kr4]), (c8, 0, [.int .i64 (((a.tr : Nat) : Int)), ka4, kr4]), (c5, 0, [.int .i64 (((b.tr : Nat) : Int)), kb, km]), (c4, 0, [.int .i64 (((a.tr : Nat) : Int)), ka, kn])]) (A := Aa) ((B'.lessO (.cons_cons _ (.cons _ (.refl _)))).cast (by simp)) (fun c hc => hc) hAa, hmt⟩, B.chgF⟩
  replace e27 := of_decide_eq_true e27
  exfalso; omega
 replace e23 : ¬ (((a.tr : Nat) : Int) = ((b.tr : Nat) : Int)) := by first | simpa using e23 | (intro hq; rw [decide_eq_true hq] at e23; cases e23)
 exfalso; omega
end Go.Proofs.YtiknomepbklibaaGreatDoor
