/-
  FreeBound returns true.
-/
import Derived.Test.YtmjnbdkjekdkgaaDoorFbPul
import Derived.Test.YtmjnbdkjekdkgaaDoorFbHand
section
namespace Go.Proofs.YtmjnbdkjekdkgaaDoor
open Go Go.RowKit
set_option linter.unusedVariables false
set_option linter.unusedSimpArgs false
set_option linter.unnecessarySimpa false
set_option maxRecDepth 100000
set_option maxHeartbeats 1000000

section
variable {P : Program} {G : Env} {N : Nat} {T : Tr AV} {st : St} {ops rest : List Oper} {K : List (Nat × AV)} {R : Tr AV → St → Prop} {d : Nat} {ty : TypeId} {pos : String} {af : Array Edge} {h0 : Hp} {n0 : Nat} {X : List Nat} {M : List (Nat × Nat × List AV)}
end
theorem own_tx {h : Hp} {c : Nat} {s : List Nat} (r : Row1 h c 0 [AV.str s]) : RdR h [] 1 (txC [s]) (.sl c 0 0 1 1) := RdR.own (ls := [[AV.str s]]) r (by simp) (by simp) (by simp)
theorem own_kid {R : Rws} {c : Nat} {kc : List AV} {k : Nd} (hk : RdG R k kc) : KidsG (plusR R [(c, 0, kc)]) [k] (.sl c 0 0 1 5) [kc] := by
 have h := (MapG.snocS (R := R) (f := fun k => k) (l := []) (lsn := []) (k := k) (cs := kc) MapG.nil rfl hk).kids (n0 := 0) (A := [(c, 0, kc)]) (ks := .sl c 0 0 1 5) rfl (by
  have := Acc.own (n0 := 0) (c := c) (m := 0) (ls := [kc]) (z := 5) (Nat.zero_le _) (fun cs hc => by simp at hc; subst hc; exact hk.len5) (by simp)
  simpa using this)
 simpa using h
theorem inH_self (h : Hp) : inH (RowV h) h := fun _ _ _ h => h
theorem putS_of {C : Int} {x : Nd} {ts : List Nd} (hx : szN x ≤ 101) (ht : ∀ t ∈ ts, szN t ≤ 20 ∧ 0 ≤ t.num' ∧ t.num' ≤ 99) : PutS 99 20 (szN x) ts :=
 ⟨ht, by decide, Nat.le_trans (Nat.mul_le_mul_right _ hx) (by decide), by decide, by decide⟩

theorem may7_ev {R : Rws} {ns : List (List Nat)} {ts : List Nd} {kn kt : AV} {lts : List (List AV)} {st : St} (hf : Fresh st) (hR : inH R st.h.get) (hN : RdR st.h.get [] 1 (txC ns) kn) (hTs : KidsG R ts kt lts) {o s : List Nat} {z a : Int} {l : List Nd} {cs : List AV} (hr : RdG R (.mk o s z a l) cs) : ∃ v st', Ev Tryd.prog envD 26 [.agg cs, kn, kt] st v st' ∧ (∃ b, v = .bool b ∧ (b = true → szN (.mk o s z a l) ≤ 100 ∧ formN (.mk o s z a l) = true ∧ (∀ t ∈ ts, szN t ≤ 20 ∧ termN t = true) ∧ ∀ s ∈ ns, s.length ≤ 50)) ∧ Qt st st' := by
 have hr0 := hr
 obtain ⟨kk, ls, rfl, hK, hb⟩ := hr.open5
 have hln := hK.ln
 have hbn := hK.bnd
 have htn := hTs.bnd
 have htln := hTs.ln
 have hbn2 : (ns.length : Int) ≤ 9223372036854775807 := by have := hN.bnd; rw [Jc] at this; exact this
 refine J5 rfl Tryd.func26 rfl Tryd.ntmps26 rfl (by decide) (by simp) fun T hT => ?_
 have K : KnT [(0, _), (1, _), (2, _)] T := (.cons (hT 0) (.cons (hT 1) (.cons (hT 2) .nil)))
 have M := Mem.start hf
 refine Qh <| Qa ?_
 refine Ub K M rfl (Qf rfl (Qf rfl (Qf rfl (Qf rfl (Qf hK.cell Q7))))) (by decide) fun c3 _ _ K M => ?_
 refine o1 K (Qb rfl) rfl fun _ K => Qd ?_
 show W _ _ _ _ _ _ _
 refine w_cut (J := fun T st9 => KnT [(1, kn), (2, kt)] T ∧ Mem st.h.get st.n [] st9 [(c3, 0, [.str o, .str s, .int .i64 z, .int .i64 a, kk])] ∧ szN (.mk o s z a l) ≤ 100 ∧ formN (.mk o s z a l) = true) ?_ (fun T st9 hJ => ?_)
 ·refine Qh <| Qa <| o1 K (Qg rfl (M.load (k := 0) rfl (Ql Qi rfl))) rfl fun _ K => ?_
  obtain ⟨v10, st10, ev10, rfl, q10⟩ := rSize_ev M.fresh (hr0.toN (M.inH hR))
  refine o1 K (Qn rfl ev10) rfl fun _ K => ?_
  replace M := M.quiet q10
  refine o1 K (os_gtr rfl rfl) rfl fun _ K => ?_
  refine oB K (Qc rfl) rfl fun b12 _ e12 K => ?_
  cases b12
  ·replace e12 := of_decide_eq_false e12
   refine og K rfl rfl (Qg rfl (M.load (k := 0) rfl (Ql Qi rfl))) rfl fun _ K => ?_
   obtain ⟨v14, st14, ev14, rfl, q14⟩ := rIsFormula_ev M.fresh (hr0.toN (M.inH hR))
   refine og K rfl rfl (Qn rfl ev14) rfl fun _ K => ?_
   replace M := M.quiet q14
   refine og K rfl rfl (os_not rfl) rfl fun _ K => o1 K (Qj rfl rfl rfl) rfl fun _ K => ?_
   refine oB K (Qc rfl) rfl fun b17 _ e17 K => ?_
   cases b17
   ·replace e17 : (smallB (.mk o s z a l) 2000 && formN (.mk o s z a l)) = true := by first | simpa using e17 | (revert e17; cases (smallB (.mk o s z a l) 2000 && formN (.mk o s z a l)) <;> simp)
    refine og K rfl rfl (Qc rfl) rfl fun _ K => og K rfl rfl (Jn un_S_string rfl rfl (hN.len.trans (congrArg some (Jc _)))) rfl fun _ K => og K rfl rfl (os_gtr rfl rfl) rfl fun _ K => o1 K (Qj rfl rfl rfl) rfl fun _ K => ?_
    refine oB K (Qc rfl) rfl fun b22 _ e22 K => ?_
    cases b22
    ·replace e22 := of_decide_eq_false e22
     refine og K rfl rfl (Qc rfl) rfl fun _ K => og K rfl rfl (Jn Q9 rfl rfl hTs.len) rfl fun _ K => og K rfl rfl (os_gtr rfl rfl) rfl fun _ K => o1 K (Qj rfl rfl rfl) rfl fun _ K => Qd ?_
     show W _ _ _ _ _ _ _
     refine Qr (K.opd rfl) (fun h26 => ?_) (fun h26 => ?_)
     ·have hb26 := h26
      replace h26 := of_decide_eq_true h26
      refine Qh <| Qa <| o1 K (Qb rfl) rfl fun _ K => Qd ?_
      show W _ _ _ _ _ _ _
      refine Qs ?_
      refine ⟨.inr rfl, _, (Qm (Qp K rfl)), ?_⟩
      exact ⟨⟨false, rfl, fun h => by cases h⟩, M.qt⟩
     have hb26 := h26
     replace h26 := of_decide_eq_false h26
     refine Q3 ?_
     exact ⟨(.cons (K _ _ rfl) (.cons (K _ _ rfl) .nil)), M.less (.refl _), (by simp_all <;> omega), (by simp_all)⟩
    replace e22 := of_decide_eq_true e22
    refine gn K rfl rfl rfl rfl fun _ K => gn K rfl rfl rfl rfl fun _ K => gn K rfl rfl rfl rfl fun _ K => o1 K (Qj rfl rfl rfl) rfl fun _ K => Qd ?_
    show W _ _ _ _ _ _ _
    refine Qr (t := true) (K.opd rfl) (fun _ => ?_) (fun h => by cases h)
    refine Qh <| Qa <| o1 K (Qb rfl) rfl fun _ K => Qd ?_
    show W _ _ _ _ _ _ _
    refine Qs ?_
    refine ⟨.inr rfl, _, (Qm (Qp K rfl)), ?_⟩
    exact ⟨⟨false, rfl, fun h => by cases h⟩, M.qt⟩
   replace e17 : (smallB (.mk o s z a l) 2000 && formN (.mk o s z a l)) = false := by first | simpa using e17 | (revert e17; cases (smallB (.mk o s z a l) 2000 && formN (.mk o s z a l)) <;> simp)
   refine gn K rfl rfl rfl rfl fun _ K => gn K rfl rfl rfl rfl fun _ K => gn K rfl rfl rfl rfl fun _ K => o1 K (Qj rfl rfl rfl) rfl fun _ K => o1 K (Qc rfl) rfl fun _ K => gn K rfl rfl rfl rfl fun _ K => gn K rfl rfl rfl rfl fun _ K => gn K rfl rfl rfl rfl fun _ K => o1 K (Qj rfl rfl rfl) rfl fun _ K => ?_
   refine Qd ?_
   show W _ _ _ _ _ _ _
   refine Qr (t := true) (K.opd rfl) (fun _ => ?_) (fun h => by cases h)
   refine Qh <| Qa <| o1 K (Qb rfl) rfl fun _ K => Qd ?_
   show W _ _ _ _ _ _ _
   refine Qs ?_
   refine ⟨.inr rfl, _, (Qm (Qp K rfl)), ?_⟩
   exact ⟨⟨false, rfl, fun h => by cases h⟩, M.qt⟩
  replace e12 := of_decide_eq_true e12
  refine gn K rfl rfl rfl rfl fun _ K => gn K rfl rfl rfl rfl fun _ K => gn K rfl rfl rfl rfl fun _ K => o1 K (Qj rfl rfl rfl) rfl fun _ K => o1 K (Qc rfl) rfl fun _ K => gn K rfl rfl rfl rfl fun _ K => gn K rfl rfl rfl rfl fun _ K => gn K rfl rfl rfl rfl fun _ K => o1 K (Qj rfl rfl rfl) rfl fun _ K => ?_
  refine o1 K (Qc rfl) rfl fun _ K => gn K rfl rfl rfl rfl fun _ K => gn K rfl rfl rfl rfl fun _ K => gn K rfl rfl rfl rfl fun _ K => o1 K (Qj rfl rfl rfl) rfl fun _ K => Qd ?_
  show W _ _ _ _ _ _ _
  refine Qr (t := true) (K.opd rfl) (fun _ => ?_) (fun h => by cases h)
  refine Qh <| Qa <| o1 K (Qb rfl) rfl fun _ K => Qd ?_
  show W _ _ _ _ _ _ _
  refine Qs ?_
  refine ⟨.inr rfl, _, (Qm (Qp K rfl)), ?_⟩
  exact ⟨⟨false, rfl, fun h => by cases h⟩, M.qt⟩
 obtain ⟨K, M, hS1, hS2⟩ := hJ
 refine w_cut (J := fun T st9 => KnT [(1, kn)] T ∧ Mem st.h.get st.n [] st9 [(c3, 0, [.str o, .str s, .int .i64 z, .int .i64 a, kk])] ∧ ∀ (j : Nat) (t : Nd), ts[j]? = some t → j < ts.length → szN t ≤ 20 ∧ termN t = true) ?_ (fun T st9 hJ => ?_)
 ·refine Qh <| Qa <| o1 K (Qb rfl) rfl fun _ K => Qd ?_
  show W _ _ _ _ _ _ _
  refine Q5 ?_
  refine w_loop (fun mm1 T st9 => ∃ (i : Nat), mm1 = ts.length - i ∧ KnT [(1, kn), (2, kt), (7, .int .i64 (((i : Nat) : Int)))] T ∧ Mem st.h.get st.n [] st9 [(c3, 0, [.str o, .str s, .int .i64 z, .int .i64 a, kk])] ∧ i ≤ ts.length ∧ ∀ (j : Nat) (t : Nd), ts[j]? = some t → j < i → szN t ≤ 20 ∧ termN t = true) (fun mm1 T st9 hI => ?_) _ _ _ ⟨0, rfl, (.cons (K _ _ rfl) (.cons (K _ _ rfl) (.cons (K _ _ rfl) .nil))), M.less (.refl _), (Nat.zero_le _), (fun j t _ h => absurd h (Nat.not_lt_zero j))⟩
  obtain ⟨i, rfl, K, M, hi, hin⟩ := hI
  refine Qh <| Qh <| Qa <| o1 K (Qc rfl) rfl fun _ K => o1 K (Qc rfl) rfl fun _ K => o1 K (Jn Q9 rfl rfl hTs.len) rfl fun _ K => o1 K (os_lss rfl rfl) rfl fun _ K => Qd ?_
  show W _ _ _ _ _ _ _
  refine Qr (K.opd rfl) (fun h30 => ?_) (fun h30 => ?_)
  ·have hb30 := h30
   replace h30 := of_decide_eq_true h30
   refine Q3 ?_
   show W _ _ _ _ _ _ _
   refine Qh <| Q5 <| Qh <| Qa <| o1 K (Qc rfl) rfl fun _ K => o1 K (Qc rfl) rfl fun _ K => ?_
   obtain ⟨⟨o35, s35, z35, a35, l35⟩, hi35⟩ : ∃ k, ts[i]? = some k := ⟨_, List.getElem?_eq_getElem (by omega)⟩
   have hm35 := kids_mem hi35
   obtain ⟨_, hc35, hn35⟩ := hTs.get hi35
   have hp35 := hn35
   obtain ⟨kk35, ls35, rfl, hK35, hb35⟩ := hp35.open5
   obtain ⟨x35, m35, f35, q35, _, la35, lo35, lp35⟩ := (hTs.r (M.inH hR)).load (i := i) (cs := _) hc35
   refine o1 K (Q0 (j := i) Jf (congrArg some q35) rfl (by rw [hTs.ln]; omega)) rfl fun _ K => o1 K (Qg rfl (la35 _ Qi)) rfl fun _ K => ?_
   obtain ⟨v37, st37, ev37, rfl, q37⟩ := rSize_ev M.fresh (hn35.toN (M.inH hR))
   refine o1 K (Qn rfl ev37) rfl fun _ K => ?_
   replace M := M.quiet q37
   refine o1 K (os_gtr rfl rfl) rfl fun _ K => ?_
   refine oB K (Qc rfl) rfl fun b39 _ e39 K => ?_
   cases b39
   ·replace e39 := of_decide_eq_false e39
    refine og K rfl rfl (Qc rfl) rfl fun _ K => og K rfl rfl (Qc rfl) rfl fun _ K => ?_
    obtain ⟨⟨o42, s42, z42, a42, l42⟩, hi42⟩ : ∃ k, ts[i]? = some k := ⟨_, List.getElem?_eq_getElem (by omega)⟩
    have hm42 := kids_mem hi42
    obtain ⟨_, hc42, hn42⟩ := hTs.get hi42
    have hp42 := hn42
    obtain ⟨kk42, ls42, rfl, hK42, hb42⟩ := hp42.open5
    obtain ⟨x42, m42, f42, q42, _, la42, lo42, lp42⟩ := (hTs.r (M.inH hR)).load (i := i) (cs := _) hc42
    refine og K rfl rfl (Q0 (j := i) Jf (congrArg some q42) rfl (by rw [hTs.ln]; omega)) rfl fun _ K => og K rfl rfl (Qg rfl (la42 _ Qi)) rfl fun _ K => ?_
    obtain ⟨v44, st44, ev44, rfl, q44⟩ := rIsTerm_ev M.fresh (hn42.toN (M.inH hR))
    refine og K rfl rfl (Qn rfl ev44) rfl fun _ K => ?_
    replace M := M.quiet q44
    refine og K rfl rfl (os_not rfl) rfl fun _ K => o1 K (Qj rfl rfl rfl) rfl fun _ K => Qd ?_
    show W _ _ _ _ _ _ _
    refine Qr (K.opd rfl) (fun h46 => ?_) (fun h46 => ?_)
    ·have hb46 := h46
     replace h46 : (smallB (.mk o42 s42 z42 a42 l42) 2000 && termN (.mk o42 s42 z42 a42 l42)) = false := by first | simpa using h46 | (revert h46; cases (smallB (.mk o42 s42 z42 a42 l42) 2000 && termN (.mk o42 s42 z42 a42 l42)) <;> simp)
     refine Qh <| Qa <| o1 K (Qb rfl) rfl fun _ K => Qd ?_
     show W _ _ _ _ _ _ _
     refine Qs ?_
     refine ⟨.inr rfl, _, (Qm (Qp K rfl)), ?_⟩
     exact ⟨⟨false, rfl, fun h => by cases h⟩, M.qt⟩
    have hb46 := h46
    replace h46 : (smallB (.mk o42 s42 z42 a42 l42) 2000 && termN (.mk o42 s42 z42 a42 l42)) = true := by first | simpa using h46 | (revert h46; cases (smallB (.mk o42 s42 z42 a42 l42) 2000 && termN (.mk o42 s42 z42 a42 l42)) <;> simp)
    refine Q3 ?_
    show W _ _ _ _ _ _ _
    refine Qa <| o1 K (Qc rfl) rfl fun _ K => o1 K (Jm rfl rfl (by omega) (by omega)) rfl fun _ K => o1 K (Qb rfl) rfl fun _ K => Qd ?_
    exact ⟨_, (by omega), i + 1, rfl, (.cons (K _ _ rfl) (.cons (K _ _ rfl) (.cons (K _ _ rfl) .nil))), M.less (.refl _), (by omega), (fun j t hj hlt => by rcases Nat.lt_succ_iff_lt_or_eq.1 hlt with h | h; exact hin j t hj h; (subst h; have e := hi35.symm.trans hj; injection e with e; subst e; exact ⟨by simp_all <;> omega, by simp_all⟩))⟩
   replace e39 := of_decide_eq_true e39
   refine gn K rfl rfl rfl rfl fun _ K => gn K rfl rfl rfl rfl fun _ K => gn K rfl rfl rfl rfl fun _ K => gn K rfl rfl rfl rfl fun _ K => gn K rfl rfl rfl rfl fun _ K => gn K rfl rfl rfl rfl fun _ K => o1 K (Qj rfl rfl rfl) rfl fun _ K => Qd ?_
   show W _ _ _ _ _ _ _
   refine Qr (t := true) (K.opd rfl) (fun _ => ?_) (fun h => by cases h)
   refine Qh <| Qa <| o1 K (Qb rfl) rfl fun _ K => Qd ?_
   show W _ _ _ _ _ _ _
   refine Qs ?_
   refine ⟨.inr rfl, _, (Qm (Qp K rfl)), ?_⟩
   exact ⟨⟨false, rfl, fun h => by cases h⟩, M.qt⟩
  have hb30 := h30
  replace h30 := of_decide_eq_false h30
  refine Uk ?_
  exact ⟨(.cons (K _ _ rfl) .nil), M.less (.refl _), (fun j t hj hlt => hin j t hj (by omega))⟩
 obtain ⟨K, M, hts⟩ := hJ
 refine Qh <| Qh <| Qa <| o1 K (Qb rfl) rfl fun _ K => Qd ?_
 show W _ _ _ _ _ _ _
 refine Q5 ?_
 refine w_loop (fun mm2 T st9 => ∃ (i : Nat), mm2 = ns.length - i ∧ KnT [(1, kn), (8, .int .i64 (((i : Nat) : Int)))] T ∧ Mem st.h.get st.n [] st9 [(c3, 0, [.str o, .str s, .int .i64 z, .int .i64 a, kk])] ∧ i ≤ ns.length ∧ ∀ (j : Nat) (x : List Nat), ns[j]? = some x → j < i → x.length ≤ 50) (fun mm2 T st9 hI => ?_) _ _ _ ⟨0, rfl, (.cons (K _ _ rfl) (.cons (K _ _ rfl) .nil)), M.less (.refl _), (Nat.zero_le _), (fun j t _ h => absurd h (Nat.not_lt_zero j))⟩
 obtain ⟨i, rfl, K, M, hi, hns⟩ := hI
 refine Qh <| Qh <| Qa <| o1 K (Qc rfl) rfl fun _ K => o1 K (Qc rfl) rfl fun _ K => o1 K (Jn un_S_string rfl rfl (hN.len.trans (congrArg some (Jc _)))) rfl fun _ K => o1 K (os_lss rfl rfl) rfl fun _ K => Qd ?_
 show W _ _ _ _ _ _ _
 refine Qr (K.opd rfl) (fun h50 => ?_) (fun h50 => ?_)
 ·have hb50 := h50
  replace h50 := of_decide_eq_true h50
  refine Q3 ?_
  show W _ _ _ _ _ _ _
  refine Qh <| Q5 <| Qh <| Qa <| o1 K (Qc rfl) rfl fun _ K => o1 K (Qc rfl) rfl fun _ K => ?_
  obtain ⟨y55, hi55⟩ : ∃ x, ns[i]? = some x := ⟨_, List.getElem?_eq_getElem (by omega)⟩
  obtain ⟨x55, m55, f55, q55, _, la55, lo55, lp55⟩ := (RdR.mem M hN (by simp)).load (i := i) (cs := _) (txC_get hi55)
  refine o1 K (Q0 (j := i) el_S_string (congrArg some q55) rfl (by rw [Jc]; omega)) rfl fun _ K => o1 K (Qg rfl (lo55 _ 0 _ Qx rfl)) rfl fun _ K => o1 K (os_lenS un_string rfl rfl) rfl fun _ K => o1 K (os_gtr rfl rfl) rfl fun _ K => Qd ?_
  show W _ _ _ _ _ _ _
  refine Qr (K.opd rfl) (fun h58 => ?_) (fun h58 => ?_)
  ·have hb58 := h58
   replace h58 := of_decide_eq_true h58
   refine Qh <| Qa <| o1 K (Qb rfl) rfl fun _ K => Qd ?_
   show W _ _ _ _ _ _ _
   refine Qs ?_
   refine ⟨.inr rfl, _, (Qm (Qp K rfl)), ?_⟩
   exact ⟨⟨false, rfl, fun h => by cases h⟩, M.qt⟩
  have hb58 := h58
  replace h58 := of_decide_eq_false h58
  refine Q3 ?_
  show W _ _ _ _ _ _ _
  refine Qa <| o1 K (Qc rfl) rfl fun _ K => o1 K (Jm rfl rfl (by omega) (by omega)) rfl fun _ K => o1 K (Qb rfl) rfl fun _ K => Qd ?_
  exact ⟨_, (by omega), i + 1, rfl, (.cons (K _ _ rfl) (.cons (K _ _ rfl) .nil)), M.less (.refl _), (by omega), (fun j t hj hlt => by rcases Nat.lt_succ_iff_lt_or_eq.1 hlt with h | h; exact hns j t hj h; (subst h; have e := hi55.symm.trans hj; injection e with e; subst e; omega))⟩
 have hb50 := h50
 replace h50 := of_decide_eq_false h50
 refine Uk ?_
 show W _ _ _ _ _ _ _
 refine Qh <| Qa <| o1 K (Qb rfl) rfl fun _ K => Qd ?_
 show W _ _ _ _ _ _ _
 refine Qs ?_
 refine ⟨.inr rfl, _, (Qm (Qp K rfl)), ?_⟩
 refine ⟨⟨true, rfl, fun _ => ⟨by simp_all, by simp_all, fun t ht => ?_, fun x hx => ?_⟩⟩, M.qt⟩
 ·obtain ⟨j, hj⟩ := List.getElem?_of_mem ht
  exact hts _ _ hj (by have := (List.getElem?_eq_some_iff.1 hj).1; omega)
 ·obtain ⟨j, hj⟩ := List.getElem?_of_mem hx
  exact hns _ _ hj (by have := (List.getElem?_eq_some_iff.1 hj).1; omega)

theorem freeBound_ev {o s : List Nat} {z a : Int} {l : List Nd} {st : St} {cs : List AV} (hf : Fresh st) (hrN : RdN st.h.get (.mk o s z a l) cs) (nm : List Nat) (hbm : Bytes nm) (od : Int) {ow sw : List Nat} {zw aw : Int} {lw : List Nd} {cw : List AV} (hrwN : RdN st.h.get (.mk ow sw zw aw lw) cw) : ∃ v st', Ev Tryd.prog envD 9 [.agg cs, .str nm, .int .i64 od, .agg cw] st v st' ∧ v = .bool true := by
 have hr := hrN.toG
 have hrw := hrwN.toG
 have hR := inH_self st.h.get
 have hr0 := hr
 obtain ⟨kk, ls, rfl, hK, hb⟩ := hr.open5
 have hln := hK.ln
 have hbn := hK.bnd
 have hrw0 := hrw
 obtain ⟨kkw, lsw, rfl, hKw, hbw⟩ := hrw.open5
 refine J5 rfl Tryd.func9 rfl Tryd.ntmps9 rfl (by decide) (by simp) fun T hT => ?_
 have K : KnT [(0, _), (1, _), (2, _), (3, _)] T := (.cons (hT 0) (.cons (hT 1) (.cons (hT 2) (.cons (hT 3) .nil))))
 have M := Mem.start hf
 refine Qh <| Qa ?_
 refine Ub K M rfl (Qf rfl (Qf rfl (Qf rfl (Qf rfl (Qf hK.cell Q7))))) (by decide) fun c4 _ _ K M => ?_
 refine Ub K M rfl (Qf rfl (Qf rfl (Qf rfl (Qf rfl (Qf hKw.cell Q7))))) (by decide) fun c7 _ _ K M => ?_
 refine o1 K (Qb rfl) rfl fun _ K => Qd ?_
 show W _ _ _ _ _ _ _
 refine Qh <| Qa <| o1 K (Qc rfl) rfl fun _ K => o1 K (Qc rfl) rfl fun _ K => o1 K (Qg rfl (M.load (k := 1) rfl (Ql Qi rfl))) rfl fun _ K => ?_
 refine wr_bs K M J4 Jd rfl rfl (Qf rfl (Qf rfl (Qf rfl (Qf rfl (Qf hK.cell Q7))))) rfl rfl fun c13 _ _ K M => ?_
 refine o1 K (os_build st_api_Node rfl rfl) rfl fun _ K => ?_
 refine Jy K M Jd (by decide) fun c9 _ _ K M => ?_
 refine Qz (k := 0) K M rfl rfl rfl Q6 rfl rfl rfl fun _ M => ?_
 refine Qd ?_
 show W _ _ _ _ _ _ _
 refine Qh <| Qh <| Qa <| o1 K (Qg rfl (M.load (k := 0) rfl (Ql Qi rfl))) rfl fun _ K => o1 K (Qc rfl) rfl fun _ K => ?_
 refine wr_bs K M Jv ze_string rfl rfl rfl rfl rfl fun c17 _ _ K M => ?_
 refine o1 K (Qg rfl (M.load (k := 3) rfl (Ql Qi rfl))) rfl fun _ K => ?_
 refine wr_bs K M J4 Jd rfl rfl (Qf rfl (Qf rfl (Qf rfl (Qf rfl (Qf hKw.cell Q7))))) rfl rfl fun c19 _ _ K M => ?_
 replace M : Mem st.h.get st.n [] _ [(c19, 0, [.str ow, .str sw, .int .i64 zw, .int .i64 aw, kkw]), (c17, 0, [.str nm]), (c9, 0, [.str [101, 120], .str nm, .int .i64 od, .int .i64 0, (.sl c13 0 0 1 5)]), (c13, 0, [.str o, .str s, .int .i64 z, .int .i64 a, kk]), (c7, 0, [.str ow, .str sw, .int .i64 zw, .int .i64 aw, kkw]), (c4, 0, [.str o, .str s, .int .i64 z, .int .i64 a, kk])] := M
 have hx20 : RdG (plusR (RowV st.h.get) [(c13, 0, [.str o, .str s, .int .i64 z, .int .i64 a, kk]), (c19, 0, [.str ow, .str sw, .int .i64 zw, .int .i64 aw, kkw])]) (.mk [101, 120] nm od 0 [(.mk o s z a l)]) [.str [101, 120], .str nm, .int .i64 od, .int .i64 0, .sl c13 0 0 1 5] := one_node (List.mem_cons_self ..) (hr0.mono fun _ _ _ h => .inl h) ⟨by unfold Bytes; decide, hbm⟩
 have hw20 : KidsG (plusR (RowV st.h.get) [(c13, 0, [.str o, .str s, .int .i64 z, .int .i64 a, kk]), (c19, 0, [.str ow, .str sw, .int .i64 zw, .int .i64 aw, kkw])]) [(.mk ow sw zw aw lw)] (.sl c19 0 0 1 5) [[.str ow, .str sw, .int .i64 zw, .int .i64 aw, kkw]] := (own_kid hrw0).mono (plusR_mono (fun _ _ _ h => h) (by intro x hx; simp at hx; subst hx; simp))
 obtain ⟨v20, st20, ev20, ⟨mb20, rfl, hm20⟩, q20⟩ := may7_ev (ns := [nm]) (ts := [(.mk ow sw zw aw lw)]) M.fresh (M.inHB hR (B := [(c13, 0, [.str o, .str s, .int .i64 z, .int .i64 a, kk]), (c19, 0, [.str ow, .str sw, .int .i64 zw, .int .i64 aw, kkw])]) (by intro x hx; simp at hx; rcases hx with rfl | rfl <;> simp)) (own_tx (M.row1 (k := 1) rfl)) hw20 hx20
 refine o1 K (Qn rfl ev20) rfl fun _ K => ?_
 replace M := M.quiet q20
 refine o1 K (os_not rfl) rfl fun _ K => Qd ?_
 show W _ _ _ _ _ _ _
 refine Qr (K.opd rfl) (fun h21 => ?_) (fun h21 => ?_)
 · have hb21 := h21
   replace h21 : (mb20) = false := by first | simpa using h21 | (revert h21; cases (mb20) <;> simp)
   refine Qh <| Qa <| o1 K (Qb rfl) rfl fun _ K => Qd ?_
   show W _ _ _ _ _ _ _
   refine Qs ?_
   refine ⟨.inr rfl, _, (Qm (Qp K rfl)), ?_⟩
   first
    | rfl
    | (simp_all; done)
    | (exfalso; simp_all; done)
 have hb21 := h21
 replace h21 : (mb20) = true := by first | simpa using h21 | (revert h21; cases (mb20) <;> simp)
 refine Q3 ?_
 show W _ _ _ _ _ _ _
 refine Qh ?_
 refine w_drawI (l := [(0, 0), (1, 0), (2, 0), (3, 0), (4, 0), (5, 0), (6, 1), (7, 0), (8, 0), (9, 0), (10, 0), (11, 0), (12, 0), (13, 0), (14, 0), (15, 0), (16, 0), (17, 0), (18, 0)]) (by kernel_rfl) ?_
 have Mq := M
 refine d1 rfl K (Qg rfl (M.load (k := 2) rfl (Ql Qi rfl))) rfl rfl fun _ K => d1 rfl K (Qc rfl) rfl rfl fun _ K => ?_
 refine wd_bs rfl K M Jv ze_string rfl rfl rfl rfl rfl fun c24 _ _ K M => ?_
 refine d1 rfl K (Qg rfl (M.load (k := 5) rfl (Ql Qi rfl))) rfl rfl fun _ K => ?_
 refine wd_bs rfl K M J4 Jd rfl rfl (Qf rfl (Qf rfl (Qf rfl (Qf rfl (Qf hKw.cell Q7))))) rfl rfl fun c26 _ _ K M => ?_
 replace M : Mem st.h.get st.n [] _ [(c26, 0, [.str ow, .str sw, .int .i64 zw, .int .i64 aw, kkw]), (c24, 0, [.str nm]), (c19, 0, [.str ow, .str sw, .int .i64 zw, .int .i64 aw, kkw]), (c17, 0, [.str nm]), (c9, 0, [.str [101, 120], .str nm, .int .i64 od, .int .i64 0, (.sl c13 0 0 1 5)]), (c13, 0, [.str o, .str s, .int .i64 z, .int .i64 a, kk]), (c7, 0, [.str ow, .str sw, .int .i64 zw, .int .i64 aw, kkw]), (c4, 0, [.str o, .str s, .int .i64 z, .int .i64 a, kk])] := M
 obtain ⟨hm1, hm2, hm3, _⟩ := hm20 (by simp_all)
 have hok : okN (.mk [101, 120] nm od 0 [(.mk o s z a l)]) := .inl hm2
 have hx27 : RdG (plusR (RowV st.h.get) [(c13, 0, [.str o, .str s, .int .i64 z, .int .i64 a, kk]), (c26, 0, [.str ow, .str sw, .int .i64 zw, .int .i64 aw, kkw])]) (.mk [101, 120] nm od 0 [(.mk o s z a l)]) [.str [101, 120], .str nm, .int .i64 od, .int .i64 0, .sl c13 0 0 1 5] := one_node (List.mem_cons_self ..) (hr0.mono fun _ _ _ h => .inl h) ⟨by unfold Bytes; decide, hbm⟩
 have hw27 : KidsG (plusR (RowV st.h.get) [(c13, 0, [.str o, .str s, .int .i64 z, .int .i64 a, kk]), (c26, 0, [.str ow, .str sw, .int .i64 zw, .int .i64 aw, kkw])]) [(.mk ow sw zw aw lw)] (.sl c26 0 0 1 5) [[.str ow, .str sw, .int .i64 zw, .int .i64 aw, kkw]] := (own_kid hrw0).mono (plusR_mono (fun _ _ _ h => h) (by intro x hx; simp at hx; subst hx; simp))
 obtain ⟨v27, st27, ev27, ⟨on27, sn27, zn27, an27, ln27, kkn27, A27, en27, rfl, hS27, hN27⟩, q27⟩ := fPut_ev M.fresh (M.inHB hR (B := [(c13, 0, [.str o, .str s, .int .i64 z, .int .i64 a, kk]), (c26, 0, [.str ow, .str sw, .int .i64 zw, .int .i64 aw, kkw])]) (by intro x hx; simp at hx; rcases hx with rfl | rfl <;> simp)) (own_tx (M.row1 (k := 1) rfl)) hw27 hx27 (putS_of (C := 99) (by omega) (fun t ht => by rw [List.mem_singleton] at ht; subst ht; have h9 := hm3 _ (List.mem_singleton_self _); exact ⟨h9.1, term_num h9.2⟩)) (okN_okB _ hok)
 refine dA rfl K (Qn rfl ev27) rfl rfl fun _ K => ?_
 replace M := M.callSeg q27 hS27
 rw [put_bound _ _ _ _ _ _ hok] at en27 hN27
 replace M := Mem.cast (M' := ((c26, 0, [.str ow, .str sw, .int .i64 zw, .int .i64 aw, kkw]) :: (c24, 0, [.str nm]) :: (c19, 0, [.str ow, .str sw, .int .i64 zw, .int .i64 aw, kkw]) :: (c17, 0, [.str nm]) :: (c9, 0, [.str [101, 120], .str nm, .int .i64 od, .int .i64 0, (.sl c13 0 0 1 5)]) :: (c13, 0, [.str o, .str s, .int .i64 z, .int .i64 a, kk]) :: (c7, 0, [.str ow, .str sw, .int .i64 zw, .int .i64 aw, kkw]) :: (c4, 0, [.str o, .str s, .int .i64 z, .int .i64 a, kk]) :: (A27 ++ []))) M (by first | (simp only [List.append_assoc, List.cons_append, List.nil_append, List.append_nil, List.set_cons_zero, List.set_cons_succ]; done) | (simp only [List.append_assoc, List.cons_append, List.nil_append, List.append_nil, List.set_cons_zero, List.set_cons_succ]; rfl))
 have Mp := Mq
 have Mq := M
 refine wd_load1 rfl K rfl (M.load (k := 4) rfl (Ql Qi rfl)) (Mp.load (k := 2) rfl (Ql Qi rfl)) (eqV_agg rfl) rfl (by decide) fun _ K => ?_
 obtain ⟨v29, st29, ev29, rj29, q29⟩ := rSame_ev _ _ _ _ _ M.fresh (hN27.toN (fun c m l h => by rcases h with (h | h) | h; exact (M.inH hR) c m l h; (simp at h; rcases h with ⟨rfl, rfl, rfl⟩ | ⟨rfl, rfl, rfl⟩; exact Row1.rowV (M.row1 (k := 5) rfl); exact Row1.rowV (M.row1 (k := 0) rfl)); exact Row1.rowV (M.row _ _ _ (by simp [h])))) ((one_node (R := RowV st.h.get) (A := [(c13, 0, [.str o, .str s, .int .i64 z, .int .i64 a, kk])]) (List.mem_cons_self ..) (hr0.mono fun _ _ _ h => .inl h) ⟨by unfold Bytes; decide, hbm⟩ : RdG _ (.mk [101, 120] nm od 0 [(.mk o s z a l)]) [.str [101, 120], .str nm, .int .i64 od, .int .i64 0, .sl c13 0 0 1 5]).toN (M.inHB hR (B := [(c13, 0, [.str o, .str s, .int .i64 z, .int .i64 a, kk])]) (by intro x hx; simp at hx; subst hx; simp)))
 refine dA rfl K (Qn rfl ev29) rfl rfl fun _ K => ?_
 rw [sameN_self2] at rj29
 subst rj29
 replace M := M.quiet q29
 have Mp := Mq
 have Mq := M
 refine d1 rfl K (Qc rfl) rfl rfl fun _ K => dg rfl K rfl rfl (Qg rfl (M.load (k := 4) rfl (Ql Qi rfl))) rfl rfl fun _ K => ?_
 obtain ⟨v32, st32, ev32, ⟨ks32, rfl, hR32⟩, q32⟩ := tNames_ev (o := [101, 120]) (s := nm) (z := od) (a := 0) (l := [(.mk o s z a l)]) M.fresh ((one_node (R := RowV st.h.get) (A := [(c13, 0, [.str o, .str s, .int .i64 z, .int .i64 a, kk])]) (List.mem_cons_self ..) (hr0.mono fun _ _ _ h => .inl h) ⟨by unfold Bytes; decide, hbm⟩ : RdG _ (.mk [101, 120] nm od 0 [(.mk o s z a l)]) [.str [101, 120], .str nm, .int .i64 od, .int .i64 0, .sl c13 0 0 1 5]).toN (M.inHB hR (B := [(c13, 0, [.str o, .str s, .int .i64 z, .int .i64 a, kk])]) (by intro x hx; simp at hx; subst hx; simp))) (by omega)
 refine dga rfl K rfl rfl (Qn rfl ev32) rfl rfl fun _ K => ?_
 replace M := M.quiet q32
 have Mp := Mq
 have Mq := M
 refine dg rfl K rfl rfl (Qc rfl) rfl rfl fun _ K => ?_
 have hz34 : inB nm (freeN (.mk [101, 120] nm od 0 [(.mk o s z a l)])) = false := by
   cases h9 : inB nm (freeN (.mk [101, 120] nm od 0 [(.mk o s z a l)])) with
   | false => rfl
   | true =>
     have hby : ByA (.mk [101, 120] nm od 0 [(.mk o s z a l)]) := RdN.byA ((one_node (R := RowV st.h.get) (A := [(c13, 0, [.str o, .str s, .int .i64 z, .int .i64 a, kk])]) (List.mem_cons_self ..) (hr0.mono fun _ _ _ h => .inl h) ⟨by unfold Bytes; decide, hbm⟩ : RdG _ (.mk [101, 120] nm od 0 [(.mk o s z a l)]) [.str [101, 120], .str nm, .int .i64 od, .int .i64 0, .sl c13 0 0 1 5]).toN (M.inHB hR (B := [(c13, 0, [.str o, .str s, .int .i64 z, .int .i64 a, kk])]) (by intro x hx; simp at hx; subst hx; simp)))
     exact absurd ((mem_freeN hby nm).1 (mem_inB.1 h9)) (bound_gone _ _ _ _)
 obtain ⟨v34, st34, ev34, rj34, q34⟩ := txHas_ev M.fresh hR32 nm
 refine dga rfl K rfl rfl (Qn rfl ev34) rfl rfl fun _ K => ?_
 rw [hz34] at rj34
 subst rj34
 replace M := M.quiet q34
 have Mp := Mq
 have Mq := M
 refine dg rfl K rfl rfl (os_not rfl) rfl rfl fun _ K => d1 rfl K (Qj rfl rfl rfl) rfl rfl fun _ K => d1 rfl K (Qc rfl) rfl rfl fun _ K => ?_
 have ev38 := known7_ev
 refine dga rfl K rfl rfl (Qn rfl (ev38 _)) rfl rfl fun _ K => ?_
 have Mp := Mq
 have Mq := M
 refine d1 rfl K (Qj rfl rfl rfl) rfl rfl fun _ K => d1 rfl K (Qb rfl) rfl rfl fun _ K => wd_nil ?_
 show W _ _ _ _ _ _ _
 refine Qs ?_
 refine ⟨.inr rfl, _, (Qm (Qp K rfl)), ?_⟩
 first
  | rfl
  | (simp_all; done)
  | (exfalso; simp_all; done)
end Go.Proofs.YtmjnbdkjekdkgaaDoor
end

section
namespace Go.Proofs.YtmjnbdkjekdkgaaDoor
open Go Go.RowKit
set_option linter.unusedVariables false

theorem walk_freeBound {H : Type} {enc : TypeId × Value → H} {W : World} {v0 v1 : Value} {d0 d1 : DataW H} {p0 p1 : List MemPlace} (h0 : DataW.Trod enc Tryd.prog W 0 (fun _ => true) true 24 v0 d0 p0) (a1 : ByteArray) (a2 : Int) (h1 : DataW.Trod enc Tryd.prog W 0 (fun _ => true) true 24 v1 d1 p1) (hz : a1.size ≤ 140737488351232) (ha : -9223372036854775808 ≤ a2 ∧ a2 ≤ 9223372036854775807) (hT : Tabs W) :
  Calls Tryd.prog 9 #[v0, .string a1, .int .i64 a2, v1] W fun e w' => e = .returned (.bool true) ∧ Below W.heap.size W w' := by
 obtain ⟨ml1, cs, k, _, hM1, hk, hw, hc⟩ := hand_node GoodM.nil h0
 obtain ⟨ml2, ct, k', hp, hM2, hk', hw', hc'⟩ := hand_node hM1 h1
 obtain ⟨hk, hw, e⟩ := hand_more hp hk hw
 rw [hc] at e
 obtain ⟨o, s, z, a, l⟩ := k
 obtain ⟨ow, sw, zw, aw, lw⟩ := k'
 have := open_true (G := envD) (fun _ => rfl) envD_ok mixed (f := 9) (args := [.agg cs, .str (textOf a1), .int .i64 a2, .agg ct]) hM2 ⟨hw, bytes_textOf a1, trivial, hw', trivial⟩
  (freeBound_ev (stM_fresh ml2) (by rw [stM_get]; exact hk) (textOf a1) (bytes_textOf a1) a2 (by rw [stM_get]; exact hk')) hT
 rw [show concL (plM ml2) [.agg cs, .str (textOf a1), .int .i64 a2, .agg ct] = [v0, .string a1, .int .i64 a2, v1] by
  rw [← e, ← hc']; show [_, Value.string (bytesOf (textOf a1)), _, _] = _; rw [bytesOf_textOf]; rfl] at this
 exact this
end Go.Proofs.YtmjnbdkjekdkgaaDoor
end
