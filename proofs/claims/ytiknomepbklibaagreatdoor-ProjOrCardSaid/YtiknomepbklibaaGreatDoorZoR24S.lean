/-
  Are two automata one? The reference's answer.
-/
import Derived.Test.YtiknomepbklibaaGreatDoorZoR24M
namespace Go.Proofs.YtiknomepbklibaaGreatDoor
open Go Go.RowKit
set_option linter.unusedVariables false
set_option linter.unusedSimpArgs false
set_option linter.unnecessarySimpa false
set_option maxRecDepth 100000
set_option maxHeartbeats 4000000

theorem like_mid {a b m1 m2 : Au} (h1 : Like m1 a 0 0) (h : Like a b 0 0) (h2 : Like m2 b 0 0) (t1 : m1.tr = a.tr) (t2 : m2.tr = b.tr) (t : b.tr = a.tr) : Like m1 m2 0 0 := fun w hw => by
 have hwa : LetK a.K w := by unfold Au.K at hw ⊢; rw [← t1]; exact hw
 have hwm : LetK m2.K w := by unfold Au.K at hwa ⊢; rw [t2, t]; exact hwa
 rw [h1 w hw, h w hwa, ← h2 w hwm]

theorem same24_ev {st : St} (hf : Fresh st) {a b : Au} (wfa : WFA a) (wfb : WFA b) {ka kn kb km : AV} {ls ls2 : List (List AV)} (hAa : RdR st.h.get [] 1 (bC a.acc) ka) (hNa : LsR st.h.get a.nx kn ls) (hAb : RdR st.h.get [] 1 (bC b.acc) kb) (hNb : LsR st.h.get b.nx km ls2) (ht : b.tr = a.tr) (hL : Like a b 0 0) : ∃ v st', Ev Tryz.prog envP 18 [.agg [.int .i64 (((a.tr : Nat) : Int)), ka, kn], .agg [.int .i64 (((b.tr : Nat) : Int)), kb, km]] st v st' ∧ v = .bool true ∧ Qt st st' := by
 have hac := hAa.cell; have hnc := hNa.r.cell; have hbc := hAb.cell; have hmc := hNb.r.cell
 have B := MemO.start hf
 refine ev_fn rfl Tryz.func18 rfl Tryz.ntmps18 rfl (by decide) (by simp) fun T hT => ?_
 have K : KnT [(0, _), (1, _)] T := (.cons (hT 0) (.cons (hT 1) .nil))
 have M := B.mem
 refine w_seq <| w_region ?_
 refine wr_box K M rfl (cl_cons rfl (cl_cons hAa.cell (cl_cons hNa.r.cell cl_nil))) (by decide) fun c2 _ _ K M => ?_
 refine wr_box K M rfl (cl_cons rfl (cl_cons hAb.cell (cl_cons hNb.r.cell cl_nil))) (by decide) fun c3 _ _ K M => ?_
 refine o1 K (os_assign rfl) rfl fun _ K => wr_nil ?_
 show W _ _ _ _ _ _ _
 refine w_seq ?_
 refine w_drawI (l := [(0, 0), (1, 0), (2, 0), (3, 0), (4, 0), (5, 0), (6, 0), (7, 0), (8, 1), (9, 0), (10, 0), (11, 0), (12, 0)]) (by kernel_rfl) ?_
 have Mq := M
 refine d1 rfl K (os_fieldAddr fo_api_Auto_0 rfl) rfl rfl fun _ K => d1 rfl K (os_load rfl (M.load (k := 1) rfl (part_one tk_int rfl))) rfl rfl fun _ K => d1 rfl K (os_fieldAddr fo_api_Auto_0 rfl) rfl rfl fun _ K => d1 rfl K (os_load rfl (M.load (k := 0) rfl (part_one tk_int rfl))) rfl rfl fun _ K => d1 rfl K (os_eqI rfl rfl) rfl rfl fun _ K => ?_
 refine dB rfl K (os_move rfl) rfl rfl fun b10 _ e10 K => ?_
 cases b10
 ·replace e10 := of_decide_eq_false e10
  exfalso; omega
 replace e10 := of_decide_eq_true e10
 refine dg rfl K rfl rfl (os_load rfl (M.load (k := 1) rfl (part_agg tk_api_Auto rfl))) rfl rfl fun _ K => ?_
 obtain ⟨v12, st12, ev12, cl1, l1, m1, hcls1, htr1, hmd1, nau1, q12⟩ := min_ev M.fresh wfa ((B.step M).rd0 hf hAa) (hNa.old hf fun c hc => (B.step M).old c hc id)
 refine dga rfl K rfl rfl (os_call rfl ev12) rfl rfl fun _ K => ?_
 replace B := B.step M
 obtain ⟨ka1, kn1, vs1, A1, F1, rfl, hA1, B⟩ := B.newAu q12 nau1
 have hn1 : isCell kn1 = true := (LsAt.rd (B.at_ (k := 0) rfl)).cell
 replace B := B.cast (M' := ((c3, 0, [.int .i64 (((b.tr : Nat) : Int)), kb, km]) :: (c2, 0, [.int .i64 (((a.tr : Nat) : Int)), ka, kn]) :: (A1 ++ []))) (by first | (simp only [List.append_assoc, List.cons_append, List.nil_append, List.append_nil, List.set_cons_zero, List.set_cons_succ]; done) | (simp only [List.append_assoc, List.cons_append, List.nil_append, List.append_nil, List.set_cons_zero, List.set_cons_succ]; rfl))
 have M := B.mem
 have Mp := Mq
 have Mq := M
 refine wd_gload1 rfl K rfl rfl rfl (M.load (k := 0) rfl (part_agg tk_api_Auto rfl)) (Mp.load (k := 0) rfl (part_agg tk_api_Auto rfl)) (eqV_agg (by simp [eqOk_str, eqOk_int, eqOk_bool, eqOk_len (hAb.len.trans (congrArg some (bC_len _))), eqOk_len hNb.len])) rfl (by decide) fun _ K => ?_
 obtain ⟨v14, st14, ev14, cl2, l2, m2, hcls2, htr2, hmd2, nau2, q14⟩ := min_ev M.fresh wfb ((B.step M).rd0 hf hAb) (hNb.old hf fun c hc => (B.step M).old c hc id)
 refine dga rfl K rfl rfl (os_call rfl ev14) rfl rfl fun _ K => ?_
 replace B := B.step M
 obtain ⟨ka2, kn2, vs2, A2, F2, rfl, hA2, B⟩ := B.newAu q14 nau2
 have hn2 : isCell kn2 = true := (LsAt.rd (B.at_ (k := 0) rfl)).cell
 replace B := B.cast (M' := ((c3, 0, [.int .i64 (((b.tr : Nat) : Int)), kb, km]) :: (c2, 0, [.int .i64 (((a.tr : Nat) : Int)), ka, kn]) :: (A1 ++ (A2 ++ [])))) (by first | (simp only [List.append_assoc, List.cons_append, List.nil_append, List.append_nil, List.set_cons_zero, List.set_cons_succ]; done) | (simp only [List.append_assoc, List.cons_append, List.nil_append, List.append_nil, List.set_cons_zero, List.set_cons_succ]; rfl))
 have M := B.mem
 have Mp := Mq
 have Mq := M
 have C1 := min_canon wfa hcls1 htr1 hmd1
 have C2 := min_canon wfb hcls2 htr2 hmd2
 obtain rfl := canon_uniq C1.1 C2.1 (by omega) (like_mid C1.2 hL C2.2 htr1 htr2 ht)
 obtain ⟨v15, st15, ev15, rfl, q15⟩ := r19Same_ev (acc := m1.acc) M.fresh (Mem.accR (L := [(c3, 0, [.int .i64 (((b.tr : Nat) : Int)), kb, km]), (c2, 0, [.int .i64 (((a.tr : Nat) : Int)), ka, kn])]) (A := A1) (B := (A2 ++ [])) M hA1) (LsAt.r ((B.step M).at_ (k := 1) rfl)) (Mem.accR (L := ((c3, 0, [.int .i64 (((b.tr : Nat) : Int)), kb, km]) :: (c2, 0, [.int .i64 (((a.tr : Nat) : Int)), ka, kn]) :: (A1 ++ []))) (A := A2) (B := []) (Mem.cast (M := ((c3, 0, [.int .i64 (((b.tr : Nat) : Int)), kb, km]) :: (c2, 0, [.int .i64 (((a.tr : Nat) : Int)), ka, kn]) :: (A1 ++ (A2 ++ [])))) (M' := ((c3, 0, [.int .i64 (((b.tr : Nat) : Int)), kb, km]) :: (c2, 0, [.int .i64 (((a.tr : Nat) : Int)), ka, kn]) :: (A1 ++ [])) ++ (A2 ++ [])) M (by first | (simp only [List.append_assoc, List.cons_append, List.nil_append, List.append_nil, List.set_cons_zero, List.set_cons_succ]; done) | (simp only [List.append_assoc, List.cons_append, List.nil_append, List.append_nil, List.set_cons_zero, List.set_cons_succ]; rfl))) hA2) (LsAt.r ((B.step M).at_ (k := 0) rfl))
 refine dga rfl K rfl rfl (os_call rfl ev15) rfl rfl fun _ K => ?_
 replace M := M.quiet q15
 have Mp := Mq
 have Mq := M
 refine d1 rfl K (os_pick rfl rfl rfl) rfl rfl fun _ K => d1 rfl K (os_assign rfl) rfl rfl fun _ K => wd_nil ?_
 show W _ _ _ _ _ _ _
 refine w_ret ?_
 refine ⟨.inr rfl, _, (res_one (rs_tmp K rfl)), ?_⟩
 exact ⟨rfl, (B.step M).qt⟩
end Go.Proofs.YtiknomepbklibaaGreatDoor
