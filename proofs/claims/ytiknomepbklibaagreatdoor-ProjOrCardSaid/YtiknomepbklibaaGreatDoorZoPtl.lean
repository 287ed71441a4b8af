/-
  What the laws of chapter 22 look at first; ProjCloses.
-/
import Derived.Test.YtiknomepbklibaaGreatDoorZoPja
import Derived.Test.YtiknomepbklibaaGreatDoorZoR19
import Derived.Test.YtiknomepbklibaaGreatDoorZoPrJ
import Derived.Test.YtiknomepbklibaaGreatDoorZoPoP
section
namespace Go.Proofs.YtiknomepbklibaaGreatDoor
open Go Go.RowKit
set_option linter.unusedVariables false
set_option linter.unusedSimpArgs false
set_option linter.unnecessarySimpa false
set_option maxRecDepth 100000
set_option maxHeartbeats 4000000

theorem may22_ev {st : St} (hf : Fresh st) {t : Int} {acc : List Bool} {nx : List (List Int)} {ka kn : AV} {ls : List (List AV)} (hA : RdR st.h.get [] 1 (bC acc) ka) (hN : LsR st.h.get nx kn ls) : ∃ v st', Ev Tryz.prog envP 10 [.agg [.int .i64 t, ka, kn]] st v st' ∧ ∃ b, v = .bool b ∧ (b = true → 0 ≤ t ∧ WFA ⟨t.toNat, acc, nx⟩ ∧ acc.length ≤ 40) ∧ Qt st st' := by
 have hac := hA.cell; have hnc := hN.r.cell
 have hbnacc : (acc.length : Int) ≤ 9223372036854775807 := by have := hA.bnd; rw [bC_len] at this; exact this
 have hbn : (nx.length : Int) ≤ 9223372036854775807 := by have := hN.r.bnd; rw [hN.ln] at this; exact this
 refine ev_fn rfl Tryz.func10 rfl Tryz.ntmps10 rfl (by decide) (by simp) fun T hT => ?_
 have K : KnT [(0, _)] T := (.cons (hT 0) .nil)
 have M := Mem.start hf
 refine w_seq <| w_region ?_
 refine wr_box K M rfl (cl_cons rfl (cl_cons hA.cell (cl_cons hN.r.cell cl_nil))) (by decide) fun c1 _ _ K M => ?_
 refine o1 K (os_assign rfl) rfl fun _ K => wr_nil ?_
 show W _ _ _ _ _ _ _
 refine w_seq <| w_region <| o1 K (os_fieldAddr fo_api_Auto_1 rfl) rfl fun _ K => o1 K (os_load rfl (M.load (k := 0) rfl (part_one tk_S_bool rfl))) rfl fun _ K => o1 K (os_lenL un_S_bool rfl rfl (hA.len.trans (congrArg some (bC_len _)))) rfl fun _ K => o1 K (os_leq rfl rfl) rfl fun _ K => ?_
 refine oB K (os_move rfl) rfl fun b7 _ e7 K => ?_
 cases b7
 · replace e7 := of_decide_eq_false e7
   refine gn K rfl rfl rfl rfl fun _ K => gn K rfl rfl rfl rfl fun _ K => gn K rfl rfl rfl rfl fun _ K => gn K rfl rfl rfl rfl fun _ K => o1 K (os_pick rfl rfl rfl) rfl fun _ K => o1 K (os_move rfl) rfl fun _ K => gn K rfl rfl rfl rfl fun _ K => gn K rfl rfl rfl rfl fun _ K => o1 K (os_pick rfl rfl rfl) rfl fun _ K => ?_
   refine o1 K (os_assign rfl) rfl fun _ K => wr_nil ?_
   show W _ _ _ _ _ _ _
   refine w_ret ?_
   refine ⟨.inr rfl, _, (res_one (rs_tmp K rfl)), ?_⟩
   first
    | exact ⟨false, rfl, (fun h => by cases h), M.qt⟩
    | exact ⟨bis, rfl, (fun h => ⟨(hbis h).1, (hbis h).2, by omega⟩), M.qt⟩
    | (refine ⟨_, rfl, (fun h => ?_), M.qt⟩; exfalso; revert h; simp [bif_true, bif_false]; omega)
 replace e7 := of_decide_eq_true e7
 refine og K rfl rfl (os_fieldAddr fo_api_Auto_2 rfl) rfl fun _ K => og K rfl rfl (os_load rfl (M.load (k := 0) rfl (part_one tk_S_S_int rfl))) rfl fun _ K => og K rfl rfl (os_lenL un_S_S_int rfl rfl hN.len) rfl fun _ K => og K rfl rfl (os_leq rfl rfl) rfl fun _ K => o1 K (os_pick rfl rfl rfl) rfl fun _ K => ?_
 refine oB K (os_move rfl) rfl fun b13 _ e13 K => ?_
 cases b13
 · replace e13 := of_decide_eq_false e13
   refine gn K rfl rfl rfl rfl fun _ K => gn K rfl rfl rfl rfl fun _ K => o1 K (os_pick rfl rfl rfl) rfl fun _ K => o1 K (os_assign rfl) rfl fun _ K => wr_nil ?_
   show W _ _ _ _ _ _ _
   refine w_ret ?_
   refine ⟨.inr rfl, _, (res_one (rs_tmp K rfl)), ?_⟩
   first
    | exact ⟨false, rfl, (fun h => by cases h), M.qt⟩
    | exact ⟨bis, rfl, (fun h => ⟨(hbis h).1, (hbis h).2, by omega⟩), M.qt⟩
    | (refine ⟨_, rfl, (fun h => ?_), M.qt⟩; exfalso; revert h; simp [bif_true, bif_false]; omega)
 replace e13 := of_decide_eq_true e13
 refine og K rfl rfl (os_load rfl (M.load (k := 0) rfl (part_agg tk_api_Auto rfl))) rfl fun _ K => ?_
 obtain ⟨v15, st15, ev15, bis, rfl, hbis, q15⟩ := r19Is_ev M.fresh (RdR.mem M hA (by simp)) (hN.old hf fun c hc => M.old c hc (by simp))
 refine og K rfl rfl (os_call rfl ev15) rfl fun _ K => ?_
 replace M := M.quiet q15
 refine o1 K (os_pick rfl rfl rfl) rfl fun _ K => o1 K (os_assign rfl) rfl fun _ K => wr_nil ?_
 show W _ _ _ _ _ _ _
 refine w_ret ?_
 refine ⟨.inr rfl, _, (res_one (rs_tmp K rfl)), ?_⟩
 first
  | exact ⟨false, rfl, (fun h => by cases h), M.qt⟩
  | exact ⟨bis, rfl, (fun h => ⟨(hbis h).1, (hbis h).2, by omega⟩), M.qt⟩
  | (refine ⟨_, rfl, (fun h => ?_), M.qt⟩; exfalso; revert h; simp [bif_true, bif_false]; omega)

theorem of22_ev {st : St} (hf : Fresh st) {a : Au} (wf : WFA a) {ka kn : AV} {ls : List (List AV)} (hA : RdR st.h.get [] 1 (bC a.acc) ka) (hN : LsR st.h.get a.nx kn ls) : ∃ v st', Ev Tryz.prog envP 13 [.agg [.int .i64 (((a.tr : Nat) : Int)), ka, kn]] st v st' ∧ ∃ dp F, v = .ptr dp 0 0 ∧ DfaI st' F dp a ∧ NewF st st' F ∧ Qt st st' := by
 have hac := hA.cell; have hnc := hN.r.cell
 have B := MemO.start hf
 refine ev_fn rfl Tryz.func13 rfl Tryz.ntmps13 rfl (by decide) (by simp) fun T hT => ?_
 have K : KnT [(0, _)] T := (.cons (hT 0) .nil)
 have M := B.mem
 refine w_seq <| w_region ?_
 refine wr_box K M rfl (cl_cons rfl (cl_cons hA.cell (cl_cons hN.r.cell cl_nil))) (by decide) fun c1 _ _ K M => ?_
 refine o1 K (os_assign rfl) rfl fun _ K => wr_nil ?_
 show W _ _ _ _ _ _ _
 refine w_seq <| w_region <| o1 K (os_load rfl (M.load (k := 0) rfl (part_agg tk_api_Auto rfl))) rfl fun _ K => ?_
 replace B := B.step M
 obtain ⟨v7, st7, ev7, dp, F1, rfl, hD, nf, q7⟩ := aFrom_ev B.fresh wf (B.rd0 hf hA) (hN.old hf fun c hc => B.old c hc id)
 refine o1 K (os_call rfl ev7) rfl fun _ K => ?_
 replace B := B.new (o := dfaO F1 dp a) q7 hD.at_ nf
 have M := B.mem
 refine o1 K (os_move rfl) rfl fun _ K => o1 K (os_extract rfl rfl) rfl fun _ K => o1 K (os_extract rfl rfl) rfl fun _ K => o1 K (os_assign rfl) rfl fun _ K => o1 K (os_assign rfl) rfl fun _ K => wr_nil ?_
 show W _ _ _ _ _ _ _
 refine w_seq <| w_seq <| w_region <| o1 K (os_move rfl) rfl fun _ K => o1 K (os_neI rfl rfl) rfl fun _ K => wr_nil ?_
 show W _ _ _ _ _ _ _
 refine w_cond (K.opd rfl) (fun h11 => ?_) (fun h11 => ?_)
 ·have hb11 := h11
  replace h11 : ¬ (0 = 0) := by first | simpa using h11 | (intro hq; rw [decide_eq_true hq] at h11; cases h11)
  exact absurd rfl h11
 have hb11 := h11
 replace h11 : (0 = 0) := by first | simpa using h11 | (by_cases hq : (0 = 0); exact hq; rw [decide_eq_false hq] at h11; cases h11)
 refine w_skip ?_
 show W _ _ _ _ _ _ _
 refine w_seq <| w_region <| o1 K (os_move rfl) rfl fun _ K => o1 K (os_assign rfl) rfl fun _ K => wr_nil ?_
 show W _ _ _ _ _ _ _
 refine w_ret ?_
 refine ⟨.inr rfl, _, (res_one (rs_tmp K rfl)), ?_⟩
 replace B := B.step M
 exact ⟨dp, F1, rfl, B.dfa (k := 0) rfl, B.lo0 (k := 0) rfl, B.qt⟩

end Go.Proofs.YtiknomepbklibaaGreatDoor
end
section
namespace Go.Proofs.YtiknomepbklibaaGreatDoor
open Go Go.RowKit
set_option linter.unusedVariables false
set_option linter.unusedSimpArgs false
set_option linter.unnecessarySimpa false
set_option maxRecDepth 100000
set_option maxHeartbeats 4000000

/-- A thing more. -/
theorem MemO.add {st0 st : St} {X0 : Fp} {M : Rows2} {Os : List Ob} {o : Ob} (B : MemO st0 X0 st M Os) (h : o.H st.h.get) (hi : ∀ c, o.F c → c < st.n ∧ st0.n ≤ c) (hd : ∀ p ∈ Os, ∀ c, o.F c → ¬ p.F c) (hM : ∀ c m l, (c, m, l) ∈ M → ¬ o.F c) : MemO st0 X0 st M (o :: Os) := by
  refine ⟨B.fresh, B.le, B.row, B.nodup, B.lo, fun p hp => ?_, fun p hp c hc => ?_, List.pairwise_cons.2 ⟨hd, B.dj⟩, fun p hp c m l hm => ?_, B.old⟩
  · rcases List.mem_cons.1 hp with rfl | hp
    · exact h
    · exact B.obj p hp
  · rcases List.mem_cons.1 hp with rfl | hp
    · exact ⟨(hi c hc).1, .inl (hi c hc).2⟩
    · exact B.hi p hp c hc
  · rcases List.mem_cons.1 hp with rfl | hp
    · exact hM c m l hm
    · exact B.djM p hp c m l hm
/-- What a call with a meter made, which is new. -/
theorem MemO.addNew {st0 st st' : St} {X0 : Fp} {M : Rows2} {Os : List Ob} {o om om' : Ob} {k : Nat} (B0 : MemO st0 X0 st M Os) (hk : Os[k]? = some om) (hF : om'.F = om.F) (B : MemO st0 X0 st' M (Os.set k om')) (h : o.H st'.h.get) (hn : NewF st st' o.F) : MemO st0 X0 st' M (o :: Os.set k om') := by
  refine B.add h (fun c hc => ⟨(hn c hc).2, Nat.le_trans B0.le (hn c hc).1⟩) (fun p hp c hc hpc => ?_) (fun c m l hm hc => ?_)
  · have h1 := (hn c hc).1
    rcases List.mem_or_eq_of_mem_set hp with hp | rfl
    · have := (B0.hi p hp c hpc).1; omega
    · rw [hF] at hpc
      have := B0.hi_ hk c hpc
      omega
  · have h1 := (hn c hc).1
    have := (B0.row c m l hm).lt B0.fresh
    omega
theorem ProjR.ex {st st' : St} {a : Au} {k : Nat} {acc : List Bool} {mp l : Nat} {v : AV} (H : ProjR st st' a k acc mp l v) : ∃ xv ev l', v = .tup [xv, .int .i64 ev] ∧ Row1 st'.h.get mp 0 [.int .i64 ((l' : Nat) : Int), .bool false] ∧
  ((ev = 0 ∧ ∃ dp2 F2 L m, xv = .ptr dp2 0 0 ∧ DfaI st' F2 dp2 m ∧ NewF st st' F2 ∧ m.tr = a.tr - 1 ∧ MadeA (stepS a k) [0] (anyS acc) L m ∧ l' = l - L.length) ∨
   (ev = 8 ∧ xv = .nilp ∧ ∃ L : List (List Int), L.length = 401 ∧ L.Nodup ∧ ∀ (Q : List Int → Prop), Q [0] → (∀ s c, Q s → c < 2 ^ (a.tr - 1) → Q (stepS a k s c)) → ∀ s ∈ L, Q s)) := by
 rcases H with ⟨dp2, F2, L, m, h1, h2, h3, h4, h5, h6⟩ | ⟨h1, L, h2, h3, h4, h5⟩
 ·exact ⟨_, _, _, h1, h6, .inl ⟨rfl, dp2, F2, L, m, rfl, h2, h3, h4, h5, rfl⟩⟩
 ·exact ⟨_, _, _, h1, h5, .inr ⟨rfl, rfl, L, h2, h3, h4⟩⟩
theorem noMore {st st' : St} {F : Fp} (h : ∀ c, F c → c < st'.n) : MoreF st st' F F := fun c hc => ⟨.inl hc, h c hc⟩

end Go.Proofs.YtiknomepbklibaaGreatDoor
end
