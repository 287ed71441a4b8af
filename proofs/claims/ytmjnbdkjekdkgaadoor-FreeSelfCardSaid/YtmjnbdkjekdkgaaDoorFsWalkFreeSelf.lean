/-
  FreeSelf returns true.
-/
import Derived.Test.YtmjnbdkjekdkgaaDoorFsPul
import Derived.Test.YtmjnbdkjekdkgaaDoorFsHand
section
namespace Go.Proofs.YtmjnbdkjekdkgaaDoor
open Go Go.RowKit
set_option linter.unusedVariables false
set_option linter.unusedSimpArgs false
set_option linter.unnecessarySimpa false
set_option maxRecDepth 100000
set_option maxHeartbeats 1000000

section
variable {P : Program} {G : Env} {N : Nat} {T : Tr AV} {st : St} {ops rest : List Oper} {K : List (Nat × AV)} {R : Tr AV → St → Prop} {d : Nat} {ty : TypeId} {pos : String} {af : Array Edge} {h0 : Hp} {n0 : Nat} {X : List Nat} {M : List (Nat × Nat × List AV)}
end
theorem own_tx {h : Hp} {c : Nat} {s : List Nat} (r : Row1 h c 0 [AV.str s]) : RdR h [] 1 (txC [s]) (.sl c 0 0 1 1) := RdR.own (ls := [[AV.str s]]) r (by simp) (by simp) (by simp)
theorem own_kid {R : Rws} {c : Nat} {kc : List AV} {k : Nd} (hk : RdG R k kc) : KidsG (plusR R [(c, 0, kc)]) [k] (.sl c 0 0 1 5) [kc] := by
 have h := (MapG.snocS (R := R) (f := fun k => k) (l := []) (lsn := []) (k := k) (cs := kc) MapG.nil rfl hk).kids (n0 := 0) (A := [(c, 0, kc)]) (ks := .sl c 0 0 1 5) rfl (by
  have := Acc.own (n0 := 0) (c := c) (m := 0) (ls := [kc]) (z := 5) (Nat.zero_le _) (fun cs hc => by simp at hc; subst hc; exact hk.len5) (by simp)
  simpa using this)
 simpa using h
theorem inH_self (h : Hp) : inH (RowV h) h := fun _ _ _ h => h
theorem freeSelf_names {x : Nd} {name : List Nat} (hx : okN x) (hb : Bytes name) : putN cntN x [name] [.mk [118, 97, 114] name 0 0 []] = x := put_self cntN name hb x hx [(name, .mk [118, 97, 114] name 0 0 [])] (by simp)
theorem putS_of {C : Int} {x : Nd} {ts : List Nd} (hx : szN x ≤ 101) (ht : ∀ t ∈ ts, szN t ≤ 20 ∧ 0 ≤ t.num' ∧ t.num' ≤ 99) : PutS 99 20 (szN x) ts :=
 ⟨ht, by decide, Nat.le_trans (Nat.mul_le_mul_right _ hx) (by decide), by decide, by decide⟩

theorem may7_ev {R : Rws} {ns : List (List Nat)} {ts : List Nd} {kn kt : AV} {lts : List (List AV)} {st : St} (hf : Fresh st) (hR : inH R st.h.get) (hN : RdR st.h.get [] 1 (txC ns) kn) (hTs : KidsG R ts kt lts) {o s : List Nat} {z a : Int} {l : List Nd} {cs : List AV} (hr : RdG R (.mk o s z a l) cs) : ∃ v st', Ev Tryd.prog envD 26 [.agg cs, kn, kt] st v st' ∧ (∃ b, v = .bool b ∧ (b = true → szN (.mk o s z a l) ≤ 100 ∧ formN (.mk o s z a l) = true ∧ (∀ t ∈ ts, szN t ≤ 20 ∧ termN t = true) ∧ ∀ s ∈ ns, s.length ≤ 50)) ∧ Qt st st' := by
 have hr0 := hr
 obtain ⟨kk, ls, rfl, hK, hb⟩ := hr.open5
 have hln := hK.ln
 have hbn := hK.bnd
 have htn := hTs.bnd
 have htln := hTs.ln
 have hbn2 : (ns.length : Int) ≤ 9223372036854775807 := by have := hN.bnd; rw [txC_len] at this; exact this
 refine ev_fn rfl Tryd.func26 rfl Tryd.ntmps26 rfl (by decide) (by simp) fun T hT => ?_
 have K : KnT [(0, _), (1, _), (2, _)] T := (.cons (hT 0) (.cons (hT 1) (.cons (hT 2) .nil)))
 have M := Mem.start hf
 refine w_seq <| w_region ?_
 refine wr_box K M rfl (cl_cons rfl (cl_cons rfl (cl_cons rfl (cl_cons rfl (cl_cons hK.cell cl_nil))))) (by decide) fun c3 _ _ K M => ?_
 refine o1 K (os_assign rfl) rfl fun _ K => wr_nil ?_
 show W _ _ _ _ _ _ _
 refine w_cut (J := fun T st9 => KnT [(1, kn), (2, kt)] T ∧ Mem st.h.get st.n [] st9 [(c3, 0, [.str o, .str s, .int .i64 z, .int .i64 a, kk])] ∧ szN (.mk o s z a l) ≤ 100 ∧ formN (.mk o s z a l) = true) ?_ (fun T st9 hJ => ?_)
 ·refine w_seq <| w_region <| o1 K (os_load rfl (M.load (k := 0) rfl (part_agg tk_api_Node rfl))) rfl fun _ K => ?_
  obtain ⟨v10, st10, ev10, rfl, q10⟩ := rSize_ev M.fresh (hr0.toN (M.inH hR))
  refine o1 K (os_call rfl ev10) rfl fun _ K => ?_
  replace M := M.quiet q10
  refine o1 K (os_gtr rfl rfl) rfl fun _ K => ?_
  refine oB K (os_move rfl) rfl fun b12 _ e12 K => ?_
  cases b12
  ·replace e12 := of_decide_eq_false e12
   refine og K rfl rfl (os_load rfl (M.load (k := 0) rfl (part_agg tk_api_Node rfl))) rfl fun _ K => ?_
   obtain ⟨v14, st14, ev14, rfl, q14⟩ := rIsFormula_ev M.fresh (hr0.toN (M.inH hR))
   refine og K rfl rfl (os_call rfl ev14) rfl fun _ K => ?_
   replace M := M.quiet q14
   refine og K rfl rfl (os_not rfl) rfl fun _ K => o1 K (os_pick rfl rfl rfl) rfl fun _ K => ?_
   refine oB K (os_move rfl) rfl fun b17 _ e17 K => ?_
   cases b17
   ·replace e17 : (smallB (.mk o s z a l) 2000 && formN (.mk o s z a l)) = true := by first | simpa using e17 | (revert e17; cases (smallB (.mk o s z a l) 2000 && formN (.mk o s z a l)) <;> simp)
    refine og K rfl rfl (os_move rfl) rfl fun _ K => og K rfl rfl (os_lenL un_S_string rfl rfl (hN.len.trans (congrArg some (txC_len _)))) rfl fun _ K => og K rfl rfl (os_gtr rfl rfl) rfl fun _ K => o1 K (os_pick rfl rfl rfl) rfl fun _ K => ?_
    refine oB K (os_move rfl) rfl fun b22 _ e22 K => ?_
    cases b22
    ·replace e22 := of_decide_eq_false e22
     refine og K rfl rfl (os_move rfl) rfl fun _ K => og K rfl rfl (os_lenL un_S_api_Node rfl rfl hTs.len) rfl fun _ K => og K rfl rfl (os_gtr rfl rfl) rfl fun _ K => o1 K (os_pick rfl rfl rfl) rfl fun _ K => wr_nil ?_
     show W _ _ _ _ _ _ _
     refine w_cond (K.opd rfl) (fun h26 => ?_) (fun h26 => ?_)
     ·have hb26 := h26
      replace h26 := of_decide_eq_true h26
      refine w_seq <| w_region <| o1 K (os_assign rfl) rfl fun _ K => wr_nil ?_
      show W _ _ _ _ _ _ _
      refine w_ret ?_
      refine ⟨.inr rfl, _, (res_one (rs_tmp K rfl)), ?_⟩
      exact ⟨⟨false, rfl, fun h => by cases h⟩, M.qt⟩
     have hb26 := h26
     replace h26 := of_decide_eq_false h26
     refine w_skip ?_
     exact ⟨(.cons (K _ _ rfl) (.cons (K _ _ rfl) .nil)), M.less (.refl _), (by simp_all <;> omega), (by simp_all)⟩
    replace e22 := of_decide_eq_true e22
    refine gn K rfl rfl rfl rfl fun _ K => gn K rfl rfl rfl rfl fun _ K => gn K rfl rfl rfl rfl fun _ K => o1 K (os_pick rfl rfl rfl) rfl fun _ K => wr_nil ?_
    show W _ _ _ _ _ _ _
    refine w_cond (t := true) (K.opd rfl) (fun _ => ?_) (fun h => by cases h)
    refine w_seq <| w_region <| o1 K (os_assign rfl) rfl fun _ K => wr_nil ?_
    show W _ _ _ _ _ _ _
    refine w_ret ?_
    refine ⟨.inr rfl, _, (res_one (rs_tmp K rfl)), ?_⟩
    exact ⟨⟨false, rfl, fun h => by cases h⟩, M.qt⟩
   replace e17 : (smallB (.mk o s z a l) 2000 && formN (.mk o s z a l)) = false := by first | simpa using e17 | (revert e17; cases (smallB (.mk o s z a l) 2000 && formN (.mk o s z a l)) <;> simp)
   refine gn K rfl rfl rfl rfl fun _ K => gn K rfl rfl rfl rfl fun _ K => gn K rfl rfl rfl rfl fun _ K => o1 K (os_pick rfl rfl rfl) rfl fun _ K => o1 K (os_move rfl) rfl fun _ K => gn K rfl rfl rfl rfl fun _ K => gn K rfl rfl rfl rfl fun _ K => gn K rfl rfl rfl rfl fun _ K => o1 K (os_pick rfl rfl rfl) rfl fun _ K => ?_
   refine wr_nil ?_
   show W _ _ _ _ _ _ _
   refine w_cond (t := true) (K.opd rfl) (fun _ => ?_) (fun h => by cases h)
   refine w_seq <| w_region <| o1 K (os_assign rfl) rfl fun _ K => wr_nil ?_
   show W _ _ _ _ _ _ _
   refine w_ret ?_
   refine ⟨.inr rfl, _, (res_one (rs_tmp K rfl)), ?_⟩
   exact ⟨⟨false, rfl, fun h => by cases h⟩, M.qt⟩
  replace e12 := of_decide_eq_true e12
  refine gn K rfl rfl rfl rfl fun _ K => gn K rfl rfl rfl rfl fun _ K => gn K rfl rfl rfl rfl fun _ K => o1 K (os_pick rfl rfl rfl) rfl fun _ K => o1 K (os_move rfl) rfl fun _ K => gn K rfl rfl rfl rfl fun _ K => gn K rfl rfl rfl rfl fun _ K => gn K rfl rfl rfl rfl fun _ K => o1 K (os_pick rfl rfl rfl) rfl fun _ K => ?_
  refine o1 K (os_move rfl) rfl fun _ K => gn K rfl rfl rfl rfl fun _ K => gn K rfl rfl rfl rfl fun _ K => gn K rfl rfl rfl rfl fun _ K => o1 K (os_pick rfl rfl rfl) rfl fun _ K => wr_nil ?_
  show W _ _ _ _ _ _ _
  refine w_cond (t := true) (K.opd rfl) (fun _ => ?_) (fun h => by cases h)
  refine w_seq <| w_region <| o1 K (os_assign rfl) rfl fun _ K => wr_nil ?_
  show W _ _ _ _ _ _ _
  refine w_ret ?_
  refine ⟨.inr rfl, _, (res_one (rs_tmp K rfl)), ?_⟩
  exact ⟨⟨false, rfl, fun h => by cases h⟩, M.qt⟩
 obtain ⟨K, M, hS1, hS2⟩ := hJ
 refine w_cut (J := fun T st9 => KnT [(1, kn)] T ∧ Mem st.h.get st.n [] st9 [(c3, 0, [.str o, .str s, .int .i64 z, .int .i64 a, kk])] ∧ ∀ (j : Nat) (t : Nd), ts[j]? = some t → j < ts.length → szN t ≤ 20 ∧ termN t = true) ?_ (fun T st9 hJ => ?_)
 ·refine w_seq <| w_region <| o1 K (os_assign rfl) rfl fun _ K => wr_nil ?_
  show W _ _ _ _ _ _ _
  refine w_block ?_
  refine w_loop (fun mm1 T st9 => ∃ (i : Nat), mm1 = ts.length - i ∧ KnT [(1, kn), (2, kt), (7, .int .i64 (((i : Nat) : Int)))] T ∧ Mem st.h.get st.n [] st9 [(c3, 0, [.str o, .str s, .int .i64 z, .int .i64 a, kk])] ∧ i ≤ ts.length ∧ ∀ (j : Nat) (t : Nd), ts[j]? = some t → j < i → szN t ≤ 20 ∧ termN t = true) (fun mm1 T st9 hI => ?_) _ _ _ ⟨0, rfl, (.cons (K _ _ rfl) (.cons (K _ _ rfl) (.cons (K _ _ rfl) .nil))), M.less (.refl _), (Nat.zero_le _), (fun j t _ h => absurd h (Nat.not_lt_zero j))⟩
  obtain ⟨i, rfl, K, M, hi, hin⟩ := hI
  refine w_seq <| w_seq <| w_region <| o1 K (os_move rfl) rfl fun _ K => o1 K (os_move rfl) rfl fun _ K => o1 K (os_lenL un_S_api_Node rfl rfl hTs.len) rfl fun _ K => o1 K (os_lss rfl rfl) rfl fun _ K => wr_nil ?_
  show W _ _ _ _ _ _ _
  refine w_cond (K.opd rfl) (fun h30 => ?_) (fun h30 => ?_)
  ·have hb30 := h30
   replace h30 := of_decide_eq_true h30
   refine w_skip ?_
   show W _ _ _ _ _ _ _
   refine w_seq <| w_block <| w_seq <| w_region <| o1 K (os_move rfl) rfl fun _ K => o1 K (os_move rfl) rfl fun _ K => ?_
   obtain ⟨⟨o35, s35, z35, a35, l35⟩, hi35⟩ : ∃ k, ts[i]? = some k := ⟨_, List.getElem?_eq_getElem (by omega)⟩
   have hm35 := kids_mem hi35
   obtain ⟨_, hc35, hn35⟩ := hTs.get hi35
   have hp35 := hn35
   obtain ⟨kk35, ls35, rfl, hK35, hb35⟩ := hp35.open5
   obtain ⟨x35, m35, f35, q35, _, la35, lo35, lp35⟩ := (hTs.r (M.inH hR)).load (i := i) (cs := _) hc35
   refine o1 K (os_indexAddr (j := i) el_S_api_Node (congrArg some q35) rfl (by rw [hTs.ln]; omega)) rfl fun _ K => o1 K (os_load rfl (la35 _ tk_api_Node)) rfl fun _ K => ?_
   obtain ⟨v37, st37, ev37, rfl, q37⟩ := rSize_ev M.fresh (hn35.toN (M.inH hR))
   refine o1 K (os_call rfl ev37) rfl fun _ K => ?_
   replace M := M.quiet q37
   refine o1 K (os_gtr rfl rfl) rfl fun _ K => ?_
   refine oB K (os_move rfl) rfl fun b39 _ e39 K => ?_
   cases b39
   ·replace e39 := of_decide_eq_false e39
    refine og K rfl rfl (os_move rfl) rfl fun _ K => og K rfl rfl (os_move rfl) rfl fun _ K => ?_
    obtain ⟨⟨o42, s42, z42, a42, l42⟩, hi42⟩ : ∃ k, ts[i]? = some k := ⟨_, List.getElem?_eq_getElem (by omega)⟩
    have hm42 := kids_mem hi42
    obtain ⟨_, hc42, hn42⟩ := hTs.get hi42
    have hp42 := hn42
    obtain ⟨kk42, ls42, rfl, hK42, hb42⟩ := hp42.open5
    obtain ⟨x42, m42, f42, q42, _, la42, lo42, lp42⟩ := (hTs.r (M.inH hR)).load (i := i) (cs := _) hc42
    refine og K rfl rfl (os_indexAddr (j := i) el_S_api_Node (congrArg some q42) rfl (by rw [hTs.ln]; omega)) rfl fun _ K => og K rfl rfl (os_load rfl (la42 _ tk_api_Node)) rfl fun _ K => ?_
    obtain ⟨v44, st44, ev44, rfl, q44⟩ := rIsTerm_ev M.fresh (hn42.toN (M.inH hR))
    refine og K rfl rfl (os_call rfl ev44) rfl fun _ K => ?_
    replace M := M.quiet q44
    refine og K rfl rfl (os_not rfl) rfl fun _ K => o1 K (os_pick rfl rfl rfl) rfl fun _ K => wr_nil ?_
    show W _ _ _ _ _ _ _
    refine w_cond (K.opd rfl) (fun h46 => ?_) (fun h46 => ?_)
    ·have hb46 := h46
     replace h46 : (smallB (.mk o42 s42 z42 a42 l42) 2000 && termN (.mk o42 s42 z42 a42 l42)) = false := by first | simpa using h46 | (revert h46; cases (smallB (.mk o42 s42 z42 a42 l42) 2000 && termN (.mk o42 s42 z42 a42 l42)) <;> simp)
     refine w_seq <| w_region <| o1 K (os_assign rfl) rfl fun _ K => wr_nil ?_
     show W _ _ _ _ _ _ _
     refine w_ret ?_
     refine ⟨.inr rfl, _, (res_one (rs_tmp K rfl)), ?_⟩
     exact ⟨⟨false, rfl, fun h => by cases h⟩, M.qt⟩
    have hb46 := h46
    replace h46 : (smallB (.mk o42 s42 z42 a42 l42) 2000 && termN (.mk o42 s42 z42 a42 l42)) = true := by first | simpa using h46 | (revert h46; cases (smallB (.mk o42 s42 z42 a42 l42) 2000 && termN (.mk o42 s42 z42 a42 l42)) <;> simp)
    refine w_skip ?_
    show W _ _ _ _ _ _ _
    refine w_region <| o1 K (os_move rfl) rfl fun _ K => o1 K (os_add rfl rfl (by omega) (by omega)) rfl fun _ K => o1 K (os_assign rfl) rfl fun _ K => wr_nil ?_
    exact ⟨_, (by omega), i + 1, rfl, (.cons (K _ _ rfl) (.cons (K _ _ rfl) (.cons (K _ _ rfl) .nil))), M.less (.refl _), (by omega), (fun j t hj hlt => by rcases Nat.lt_succ_iff_lt_or_eq.1 hlt with h | h; exact hin j t hj h; (subst h; have e := hi35.symm.trans hj; injection e with e; subst e; exact ⟨by simp_all <;> omega, by simp_all⟩))⟩
   replace e39 := of_decide_eq_true e39
   refine gn K rfl rfl rfl rfl fun _ K => gn K rfl rfl rfl rfl fun _ K => gn K rfl rfl rfl rfl fun _ K => gn K rfl rfl rfl rfl fun _ K => gn K rfl rfl rfl rfl fun _ K => gn K rfl rfl rfl rfl fun _ K => o1 K (os_pick rfl rfl rfl) rfl fun _ K => wr_nil ?_
   show W _ _ _ _ _ _ _
   refine w_cond (t := true) (K.opd rfl) (fun _ => ?_) (fun h => by cases h)
   refine w_seq <| w_region <| o1 K (os_assign rfl) rfl fun _ K => wr_nil ?_
   show W _ _ _ _ _ _ _
   refine w_ret ?_
   refine ⟨.inr rfl, _, (res_one (rs_tmp K rfl)), ?_⟩
   exact ⟨⟨false, rfl, fun h => by cases h⟩, M.qt⟩
  have hb30 := h30
  replace h30 := of_decide_eq_false h30
  refine w_exit ?_
  exact ⟨(.cons (K _ _ rfl) .nil), M.less (.refl _), (fun j t hj hlt => hin j t hj (by omega))⟩
 obtain ⟨K, M, hts⟩ := hJ
 refine w_seq <| w_seq <| w_region <| o1 K (os_assign rfl) rfl fun _ K => wr_nil ?_
 show W _ _ _ _ _ _ _
 refine w_block ?_
 refine w_loop (fun mm2 T st9 => ∃ (i : Nat), mm2 = ns.length - i ∧ KnT [(1, kn), (8, .int .i64 (((i : Nat) : Int)))] T ∧ Mem st.h.get st.n [] st9 [(c3, 0, [.str o, .str s, .int .i64 z, .int .i64 a, kk])] ∧ i ≤ ns.length ∧ ∀ (j : Nat) (x : List Nat), ns[j]? = some x → j < i → x.length ≤ 50) (fun mm2 T st9 hI => ?_) _ _ _ ⟨0, rfl, (.cons (K _ _ rfl) (.cons (K _ _ rfl) .nil)), M.less (.refl _), (Nat.zero_le _), (fun j t _ h => absurd h (Nat.not_lt_zero j))⟩
 obtain ⟨i, rfl, K, M, hi, hns⟩ := hI
 refine w_seq <| w_seq <| w_region <| o1 K (os_move rfl) rfl fun _ K => o1 K (os_move rfl) rfl fun _ K => o1 K (os_lenL un_S_string rfl rfl (hN.len.trans (congrArg some (txC_len _)))) rfl fun _ K => o1 K (os_lss rfl rfl) rfl fun _ K => wr_nil ?_
 show W _ _ _ _ _ _ _
 refine w_cond (K.opd rfl) (fun h50 => ?_) (fun h50 => ?_)
 ·have hb50 := h50
  replace h50 := of_decide_eq_true h50
  refine w_skip ?_
  show W _ _ _ _ _ _ _
  refine w_seq <| w_block <| w_seq <| w_region <| o1 K (os_move rfl) rfl fun _ K => o1 K (os_move rfl) rfl fun _ K => ?_
  obtain ⟨y55, hi55⟩ : ∃ x, ns[i]? = some x := ⟨_, List.getElem?_eq_getElem (by omega)⟩
  obtain ⟨x55, m55, f55, q55, _, la55, lo55, lp55⟩ := (RdR.mem M hN (by simp)).load (i := i) (cs := _) (txC_get hi55)
  refine o1 K (os_indexAddr (j := i) el_S_string (congrArg some q55) rfl (by rw [txC_len]; omega)) rfl fun _ K => o1 K (os_load rfl (lo55 _ 0 _ tk_string rfl)) rfl fun _ K => o1 K (os_lenS un_string rfl rfl) rfl fun _ K => o1 K (os_gtr rfl rfl) rfl fun _ K => wr_nil ?_
  show W _ _ _ _ _ _ _
  refine w_cond (K.opd rfl) (fun h58 => ?_) (fun h58 => ?_)
  ·have hb58 := h58
   replace h58 := of_decide_eq_true h58
   refine w_seq <| w_region <| o1 K (os_assign rfl) rfl fun _ K => wr_nil ?_
   show W _ _ _ _ _ _ _
   refine w_ret ?_
   refine ⟨.inr rfl, _, (res_one (rs_tmp K rfl)), ?_⟩
   exact ⟨⟨false, rfl, fun h => by cases h⟩, M.qt⟩
  have hb58 := h58
  replace h58 := of_decide_eq_false h58
  refine w_skip ?_
  show W _ _ _ _ _ _ _
  refine w_region <| o1 K (os_move rfl) rfl fun _ K => o1 K (os_add rfl rfl (by omega) (by omega)) rfl fun _ K => o1 K (os_assign rfl) rfl fun _ K => wr_nil ?_
  exact ⟨_, (by omega), i + 1, rfl, (.cons (K _ _ rfl) (.cons (K _ _ rfl) .nil)), M.less (.refl _), (by omega), (fun j t hj hlt => by rcases Nat.lt_succ_iff_lt_or_eq.1 hlt with h | h; exact hns j t hj h; (subst h; have e := hi55.symm.trans hj; injection e with e; subst e; omega))⟩
 have hb50 := h50
 replace h50 := of_decide_eq_false h50
 refine w_exit ?_
 show W _ _ _ _ _ _ _
 refine w_seq <| w_region <| o1 K (os_assign rfl) rfl fun _ K => wr_nil ?_
 show W _ _ _ _ _ _ _
 refine w_ret ?_
 refine ⟨.inr rfl, _, (res_one (rs_tmp K rfl)), ?_⟩
 refine ⟨⟨true, rfl, fun _ => ⟨by simp_all, by simp_all, fun t ht => ?_, fun x hx => ?_⟩⟩, M.qt⟩
 ·obtain ⟨j, hj⟩ := List.getElem?_of_mem ht
  exact hts _ _ hj (by have := (List.getElem?_eq_some_iff.1 hj).1; omega)
 ·obtain ⟨j, hj⟩ := List.getElem?_of_mem hx
  exact hns _ _ hj (by have := (List.getElem?_eq_some_iff.1 hj).1; omega)

theorem freeSelf_ev {o s : List Nat} {z a : Int} {l : List Nd} {st : St} {cs : List AV} (hf : Fresh st) (hrN : RdN st.h.get (.mk o s z a l) cs) (nm : List Nat) (hbm : Bytes nm) : ∃ v st', Ev Tryd.prog envD 7 [.agg cs, .str nm] st v st' ∧ v = .bool true := by
 have hr := hrN.toG
 have hR := inH_self st.h.get
 have hr0 := hr
 obtain ⟨kk, ls, rfl, hK, hb⟩ := hr.open5
 have hln := hK.ln
 have hbn := hK.bnd
 refine ev_fn rfl Tryd.func7 rfl Tryd.ntmps7 rfl (by decide) (by simp) fun T hT => ?_
 have K : KnT [(0, _), (1, _)] T := (.cons (hT 0) (.cons (hT 1) .nil))
 have M := Mem.start hf
 refine w_seq <| w_region ?_
 refine wr_box K M rfl (cl_cons rfl (cl_cons rfl (cl_cons rfl (cl_cons rfl (cl_cons hK.cell cl_nil))))) (by decide) fun c2 _ _ K M => ?_
 refine o1 K (os_assign rfl) rfl fun _ K => wr_nil ?_
 show W _ _ _ _ _ _ _
 refine w_seq <| w_seq <| w_region <| o1 K (os_load rfl (M.load (k := 0) rfl (part_agg tk_api_Node rfl))) rfl fun _ K => o1 K (os_move rfl) rfl fun _ K => ?_
 refine wr_bs K M sl_S_string ze_string rfl rfl rfl rfl rfl fun c9 _ _ K M => ?_
 obtain ⟨v10, st10, ev10, ⟨mb10, rfl, hm10⟩, q10⟩ := may7_ev (R := RowV st.h.get) (ns := [nm]) (ts := []) M.fresh (M.inH hR) (own_tx (M.row1 (k := 0) rfl)) (KidsG.none (kk := .nils) rfl rfl) hr0
 refine o1 K (os_call rfl ev10) rfl fun _ K => ?_
 replace M := M.quiet q10
 refine o1 K (os_not rfl) rfl fun _ K => wr_nil ?_
 show W _ _ _ _ _ _ _
 refine w_cond (K.opd rfl) (fun h11 => ?_) (fun h11 => ?_)
 · have hb11 := h11
   replace h11 : (mb10) = false := by first | simpa using h11 | (revert h11; cases (mb10) <;> simp)
   refine w_seq <| w_region <| o1 K (os_assign rfl) rfl fun _ K => wr_nil ?_
   show W _ _ _ _ _ _ _
   refine w_ret ?_
   refine ⟨.inr rfl, _, (res_one (rs_tmp K rfl)), ?_⟩
   first
    | rfl
    | (simp_all; done)
    | (exfalso; simp_all; done)
 have hb11 := h11
 replace h11 : (mb10) = true := by first | simpa using h11 | (revert h11; cases (mb10) <;> simp)
 refine w_skip ?_
 show W _ _ _ _ _ _ _
 refine w_seq <| w_region <| o1 K (os_load rfl (M.load (k := 1) rfl (part_agg tk_api_Node rfl))) rfl fun _ K => ?_
 obtain ⟨hm1, hm2, _, _⟩ := hm10 (by simp_all)
 have hok : okN (.mk o s z a l) := .inl hm2
 obtain ⟨v13, st13, ev13, ⟨on13, sn13, zn13, an13, ln13, kkn13, A13, en13, rfl, hS13, hN13⟩, q13⟩ := fPut_ev (ns := []) (ts := []) M.fresh (M.inH hR) (RdR.nil _ _ _) (KidsG.none (kk := .nils) rfl rfl) hr0 (putS_of (C := 99) (by omega) (by simp)) (okN_okB _ hok)
 refine o1 K (os_call rfl ev13) rfl fun _ K => ?_
 replace M := M.callSeg q13 hS13
 rw [put_none _ _ hok] at en13 hN13
 replace M := Mem.cast (M' := ((c9, 0, [.str nm]) :: (c2, 0, [.str o, .str s, .int .i64 z, .int .i64 a, kk]) :: (A13 ++ []))) M (by first | (simp only [List.append_assoc, List.cons_append, List.nil_append, List.append_nil, List.set_cons_zero, List.set_cons_succ]; done) | (simp only [List.append_assoc, List.cons_append, List.nil_append, List.append_nil, List.set_cons_zero, List.set_cons_succ]; rfl))
 refine wr_alloc K M ze_api_Node (by decide) fun c5 _ _ K M => ?_
 refine wr_store (k := 0) K M rfl rfl rfl sz_api_Node rfl (cl_cons rfl (cl_cons rfl (cl_cons rfl (cl_cons rfl (cl_cons hN13.cellK cl_nil))))) rfl fun _ M => ?_
 refine wr_nil ?_
 show W _ _ _ _ _ _ _
 refine w_seq <| w_region <| o1 K (os_load rfl (M.load (k := 2) rfl (part_agg tk_api_Node rfl))) rfl fun _ K => o1 K (os_move rfl) rfl fun _ K => ?_
 refine wr_bs K M sl_S_string ze_string rfl rfl rfl rfl rfl fun c16 _ _ K M => ?_
 refine o1 K (os_move rfl) rfl fun _ K => o1 K (os_build st_api_Node rfl rfl) rfl fun _ K => ?_
 refine wr_bs K M sl_S_api_Node ze_api_Node rfl rfl rfl rfl rfl fun c19 _ _ K M => ?_
 replace M : Mem st.h.get st.n [] _ ((c19, 0, [.str [118, 97, 114], .str nm, .int .i64 0, .int .i64 0, .nils]) :: (c16, 0, [.str nm]) :: (c5, 0, [.str on13, .str sn13, .int .i64 zn13, .int .i64 an13, kkn13]) :: (c9, 0, [.str nm]) :: (c2, 0, [.str o, .str s, .int .i64 z, .int .i64 a, kk]) :: (A13 ++ [])) := M
 obtain ⟨v20, st20, ev20, ⟨on20, sn20, zn20, an20, ln20, kkn20, A20, en20, rfl, hS20, hN20⟩, q20⟩ := fPut_ev (R := plusR (RowV st.h.get) [(c19, 0, [.str [118, 97, 114], .str nm, .int .i64 0, .int .i64 0, .nils])]) (ns := [nm]) (ts := [.mk [118, 97, 114] nm 0 0 []]) M.fresh (M.inHB hR (B := [(c19, 0, [.str [118, 97, 114], .str nm, .int .i64 0, .int .i64 0, .nils])]) (by intro x hx; simp at hx; subst hx; simp)) (own_tx (M.row1 (k := 1) rfl)) (own_kid (leafG (by_var2 hbm))) (hr0.mono fun _ _ _ h => .inl h) (putS_of (C := 99) (by omega) (fun t ht => by rw [List.mem_singleton] at ht; subst ht; exact ⟨by simp [szN, szL], by show (0 : Int) ≤ 0; decide, by show (0 : Int) ≤ 99; decide⟩)) (okN_okB _ hok)
 refine o1 K (os_call rfl ev20) rfl fun _ K => ?_
 replace M := M.callSeg q20 hS20
 rw [freeSelf_names hok hbm] at en20 hN20
 replace M := Mem.cast (M' := ((c19, 0, [.str [118, 97, 114], .str nm, .int .i64 0, .int .i64 0, .nils]) :: (c16, 0, [.str nm]) :: (c5, 0, [.str on13, .str sn13, .int .i64 zn13, .int .i64 an13, kkn13]) :: (c9, 0, [.str nm]) :: (c2, 0, [.str o, .str s, .int .i64 z, .int .i64 a, kk]) :: (A13 ++ (A20 ++ [])))) M (by first | (simp only [List.append_assoc, List.cons_append, List.nil_append, List.append_nil, List.set_cons_zero, List.set_cons_succ]; done) | (simp only [List.append_assoc, List.cons_append, List.nil_append, List.append_nil, List.set_cons_zero, List.set_cons_succ]; rfl))
 refine wr_alloc K M ze_api_Node (by decide) fun c6 _ _ K M => ?_
 refine wr_store (k := 0) K M rfl rfl rfl sz_api_Node rfl (cl_cons rfl (cl_cons rfl (cl_cons rfl (cl_cons rfl (cl_cons hN20.cellK cl_nil))))) rfl fun _ M => ?_
 refine wr_nil ?_
 show W _ _ _ _ _ _ _
 refine w_seq <| w_region <| o1 K (os_load rfl (M.load (k := 3) rfl (part_agg tk_api_Node rfl))) rfl fun _ K => o1 K (os_load rfl (M.load (k := 5) rfl (part_agg tk_api_Node rfl))) rfl fun _ K => ?_
 obtain ⟨v23, st23, ev23, rj23, q23⟩ := rSame_ev _ _ _ _ _ M.fresh (hN13.toN (M.inHB hR (B := A13) (by intro x hx; simp [hx]))) (hr0.toN (M.inH hR))
 refine o1 K (os_call rfl ev23) rfl fun _ K => ?_
 rw [sameN_self2] at rj23
 subst rj23
 replace M := M.quiet q23
 refine o1 K (os_move rfl) rfl fun _ K => og K rfl rfl (os_load rfl (M.load (k := 0) rfl (part_agg tk_api_Node rfl))) rfl fun _ K => og K rfl rfl (os_load rfl (M.load (k := 5) rfl (part_agg tk_api_Node rfl))) rfl fun _ K => ?_
 obtain ⟨v27, st27, ev27, rj27, q27⟩ := rSame_ev _ _ _ _ _ M.fresh (hN20.toN (fun c m l h => by rcases h with (h | h) | h; exact (M.inH hR) c m l h; (simp at h; obtain ⟨rfl, rfl, rfl⟩ := h; exact Row1.rowV (M.row1 (k := 1) rfl)); exact Row1.rowV (M.row _ _ _ (by simp [h])))) (hr0.toN (M.inH hR))
 refine og K rfl rfl (os_call rfl ev27) rfl fun _ K => ?_
 rw [sameN_self2] at rj27
 subst rj27
 replace M := M.quiet q27
 refine o1 K (os_pick rfl rfl rfl) rfl fun _ K => o1 K (os_move rfl) rfl fun _ K => ?_
 have ev30 := known7_ev
 refine og K rfl rfl (os_call rfl (ev30 _)) rfl fun _ K => o1 K (os_pick rfl rfl rfl) rfl fun _ K => o1 K (os_assign rfl) rfl fun _ K => wr_nil ?_
 show W _ _ _ _ _ _ _
 refine w_ret ?_
 refine ⟨.inr rfl, _, (res_one (rs_tmp K rfl)), ?_⟩
 first
  | rfl
  | (simp_all; done)
  | (exfalso; simp_all; done)

end Go.Proofs.YtmjnbdkjekdkgaaDoor
end

section
namespace Go.Proofs.YtmjnbdkjekdkgaaDoor
open Go Go.RowKit
set_option linter.unusedVariables false

theorem walk_freeSelf {H : Type} {enc : TypeId × Value → H} {W : World} {v0 : Value} {d0 : DataW H} {p0 : List MemPlace} (h0 : DataW.Trod enc Tryd.prog W 0 (fun _ => true) true 24 v0 d0 p0) (a1 : ByteArray) (hz : a1.size ≤ 140737488351232) (hT : Tabs W) :
  Calls Tryd.prog 7 #[v0, .string a1] W fun e w' => e = .returned (.bool true) ∧ Below W.heap.size W w' := by
 obtain ⟨ml1, cs, k, _, hM1, hk, hw, hc⟩ := hand_node GoodM.nil h0
 obtain ⟨o, s, z, a, l⟩ := k
 have := open_true (G := envD) (fun _ => rfl) envD_ok mixed (f := 7) (args := [.agg cs, .str (textOf a1)]) hM1 ⟨hw, bytes_textOf a1, trivial⟩
  (freeSelf_ev (stM_fresh ml1) (by rw [stM_get]; exact hk) (textOf a1) (bytes_textOf a1)) hT
 rw [show concL (plM ml1) [.agg cs, .str (textOf a1)] = [v0, .string a1] by
  rw [← hc]; show [_, Value.string (bytesOf (textOf a1))] = _; rw [bytesOf_textOf]] at this
 exact this
end Go.Proofs.YtmjnbdkjekdkgaaDoor
end
