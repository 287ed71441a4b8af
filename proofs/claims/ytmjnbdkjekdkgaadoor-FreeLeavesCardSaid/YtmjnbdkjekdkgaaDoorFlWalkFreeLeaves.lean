/-
  FreeLeaves returns true.
-/
import Derived.Test.YtmjnbdkjekdkgaaDoorFlPul
import Derived.Test.YtmjnbdkjekdkgaaDoorFlHand
section
namespace Go.Proofs.YtmjnbdkjekdkgaaDoor
open Go Go.RowKit
set_option linter.unusedVariables false
set_option linter.unusedSimpArgs false
set_option linter.unnecessarySimpa false
set_option maxRecDepth 100000
set_option maxHeartbeats 1000000

section
variable {P : Program} {G : Env} {N : Nat} {T : Tr AV} {st : St} {ops rest : List Oper} {K : List (Nat × AV)} {R : Tr AV → St → Prop} {d : Nat} {ty : TypeId} {pos : String} {af : Array Edge} {h0 : Hp} {n0 : Nat} {X : List Nat} {M : List (Nat × Nat × List AV)}
theorem wr_gbs {j t0 : Nat} {pol : Bool} {t e : TypeId} {len z : Nat} {parts : Array (Nat × Operand)} {zc r : List AV} {ps : List (Nat × AV)} (hK : KnT K T) (ht : dstOf ops j = some t0) (hg : K.lookup t0 = some (.bool pol)) (hM : Mem h0 n0 X st M) (S : SlT P t e z) (hz : zeroOf P e = some zc) (hp : partsV (opK G K) parts = some ps) (hf : fillA (fun i => some (i * z, z)) ps (repL len zc) = some r) (hc : allL isCell r = true) (hb : Nat.ble (len * z) 16777216 = true) (hN : Nat.ble (d + 1) N = true)
  (hn : ∀ (c : Nat) T' st', KnT ((d, .sl c 0 0 len z) :: K) T' → Mem h0 n0 X st' ((c, 0, r) :: M) → WR P G N ops rest R T' st') : WR P G N ops (⟨some d, .buildSlice t len parts, ty, pos, af, some (j, pol)⟩ :: rest) R T st := by
 obtain ⟨c, st1, h1, h2⟩ := os_buildSlice (G := G) S hz hp hf hc (Nat.le_of_ble_eq_true hb) hM
 exact wr_gy hK ht hg h1 (Nat.le_of_ble_eq_true hN) fun T' hT' => hn c T' st1 hT' h2
end
theorem own_tx {h : Hp} {c : Nat} {s : List Nat} (r : Row1 h c 0 [AV.str s]) : RdR h [] 1 (txC [s]) (.sl c 0 0 1 1) := RdR.own (ls := [[AV.str s]]) r (by simp) (by simp) (by simp)
theorem own_kid {R : Rws} {c : Nat} {kc : List AV} {k : Nd} (hk : RdG R k kc) : KidsG (plusR R [(c, 0, kc)]) [k] (.sl c 0 0 1 5) [kc] := by
 have h := (MapG.snocS (R := R) (f := fun k => k) (l := []) (lsn := []) (k := k) (cs := kc) MapG.nil rfl hk).kids (n0 := 0) (A := [(c, 0, kc)]) (ks := .sl c 0 0 1 5) rfl (by
  have := Acc.own (n0 := 0) (c := c) (m := 0) (ls := [kc]) (z := 5) (Nat.zero_le _) (fun cs hc => by simp at hc; subst hc; exact hk.len5) (by simp)
  simpa using this)
 simpa using h
theorem inH_self (h : Hp) : inH (RowV h) h := fun _ _ _ h => h
theorem putS_of {C : Int} {x : Nd} {ts : List Nd} (hx : szN x ≤ 101) (ht : ∀ t ∈ ts, szN t ≤ 20 ∧ 0 ≤ t.num' ∧ t.num' ≤ 99) : PutS 99 20 (szN x) ts :=
 ⟨ht, by decide, Nat.le_trans (Nat.mul_le_mul_right _ hx) (by decide), by decide, by decide⟩

theorem may7_ev {R : Rws} {ns : List (List Nat)} {ts : List Nd} {kn kt : AV} {lts : List (List AV)} {st : St} (hf : Fresh st) (hR : inH R st.h.get) (hN : RdR st.h.get [] 1 (txC ns) kn) (hTs : KidsG R ts kt lts) {o s : List Nat} {z a : Int} {l : List Nd} {cs : List AV} (hr : RdG R (.mk o s z a l) cs) : ∃ v st', Ev Tryd.prog envD 26 [.agg cs, kn, kt] st v st' ∧ (∃ b, v = .bool b ∧ (b = true → szN (.mk o s z a l) ≤ 100 ∧ formN (.mk o s z a l) = true ∧ (∀ t ∈ ts, szN t ≤ 20 ∧ termN t = true) ∧ ∀ s ∈ ns, s.length ≤ 50)) ∧ Qt st st' := by
 have hr0 := hr
 obtain ⟨kk, ls, rfl, hK, hb⟩ := hr.open5
 have hln := hK.ln
 have hbn := hK.bnd
 have htn := hTs.bnd
 have htln := hTs.ln
 have hbn2 : (ns.length : Int) ≤ 9223372036854775807 := by have := hN.bnd; rw [Qw] at this; exact this
 refine J8 rfl Tryd.func26 rfl Tryd.ntmps26 rfl (by decide) (by simp) fun T hT => ?_
 have K : KnT [(0, _), (1, _), (2, _)] T := (.cons (hT 0) (.cons (hT 1) (.cons (hT 2) .nil)))
 have M := Mem.start hf
 refine Qg <| Qa ?_
 refine Uf K M rfl (Qf rfl (Qf rfl (Qf rfl (Qf rfl (Qf hK.cell Jc))))) (by decide) fun c3 _ _ K M => ?_
 refine o1 K (Qb rfl) rfl fun _ K => Qd ?_
 show W _ _ _ _ _ _ _
 refine w_cut (J := fun T st9 => KnT [(1, kn), (2, kt)] T ∧ Mem st.h.get st.n [] st9 [(c3, 0, [.str o, .str s, .int .i64 z, .int .i64 a, kk])] ∧ szN (.mk o s z a l) ≤ 100 ∧ formN (.mk o s z a l) = true) ?_ (fun T st9 hJ => ?_)
 ·refine Qg <| Qa <| o1 K (Qh rfl (M.load (k := 0) rfl (Ql Qi rfl))) rfl fun _ K => ?_
  obtain ⟨v10, st10, ev10, rfl, q10⟩ := rSize_ev M.fresh (hr0.toN (M.inH hR))
  refine o1 K (Qn rfl ev10) rfl fun _ K => ?_
  replace M := M.quiet q10
  refine o1 K (os_gtr rfl rfl) rfl fun _ K => ?_
  refine oB K (Qc rfl) rfl fun b12 _ e12 K => ?_
  cases b12
  ·replace e12 := of_decide_eq_false e12
   refine og K rfl rfl (Qh rfl (M.load (k := 0) rfl (Ql Qi rfl))) rfl fun _ K => ?_
   obtain ⟨v14, st14, ev14, rfl, q14⟩ := rIsFormula_ev M.fresh (hr0.toN (M.inH hR))
   refine og K rfl rfl (Qn rfl ev14) rfl fun _ K => ?_
   replace M := M.quiet q14
   refine og K rfl rfl (os_not rfl) rfl fun _ K => o1 K (Qj rfl rfl rfl) rfl fun _ K => ?_
   refine oB K (Qc rfl) rfl fun b17 _ e17 K => ?_
   cases b17
   ·replace e17 : (smallB (.mk o s z a l) 2000 && formN (.mk o s z a l)) = true := by first | simpa using e17 | (revert e17; cases (smallB (.mk o s z a l) 2000 && formN (.mk o s z a l)) <;> simp)
    refine og K rfl rfl (Qc rfl) rfl fun _ K => og K rfl rfl (Jm Jv rfl rfl (hN.len.trans (congrArg some (Qw _)))) rfl fun _ K => og K rfl rfl (os_gtr rfl rfl) rfl fun _ K => o1 K (Qj rfl rfl rfl) rfl fun _ K => ?_
    refine oB K (Qc rfl) rfl fun b22 _ e22 K => ?_
    cases b22
    ·replace e22 := of_decide_eq_false e22
     refine og K rfl rfl (Qc rfl) rfl fun _ K => og K rfl rfl (Jm Jg rfl rfl hTs.len) rfl fun _ K => og K rfl rfl (os_gtr rfl rfl) rfl fun _ K => o1 K (Qj rfl rfl rfl) rfl fun _ K => Qd ?_
     show W _ _ _ _ _ _ _
     refine Qq (K.opd rfl) (fun h26 => ?_) (fun h26 => ?_)
     ·have hb26 := h26
      replace h26 := of_decide_eq_true h26
      refine Qg <| Qa <| o1 K (Qb rfl) rfl fun _ K => Qd ?_
      show W _ _ _ _ _ _ _
      refine Qv ?_
      refine ⟨.inr rfl, _, (Qm (Qp K rfl)), ?_⟩
      exact ⟨⟨false, rfl, fun h => by cases h⟩, M.qt⟩
     have hb26 := h26
     replace h26 := of_decide_eq_false h26
     refine Qz ?_
     exact ⟨(.cons (K _ _ rfl) (.cons (K _ _ rfl) .nil)), M.less (.refl _), (by simp_all <;> omega), (by simp_all)⟩
    replace e22 := of_decide_eq_true e22
    refine gn K rfl rfl rfl rfl fun _ K => gn K rfl rfl rfl rfl fun _ K => gn K rfl rfl rfl rfl fun _ K => o1 K (Qj rfl rfl rfl) rfl fun _ K => Qd ?_
    show W _ _ _ _ _ _ _
    refine Qq (t := true) (K.opd rfl) (fun _ => ?_) (fun h => by cases h)
    refine Qg <| Qa <| o1 K (Qb rfl) rfl fun _ K => Qd ?_
    show W _ _ _ _ _ _ _
    refine Qv ?_
    refine ⟨.inr rfl, _, (Qm (Qp K rfl)), ?_⟩
    exact ⟨⟨false, rfl, fun h => by cases h⟩, M.qt⟩
   replace e17 : (smallB (.mk o s z a l) 2000 && formN (.mk o s z a l)) = false := by first | simpa using e17 | (revert e17; cases (smallB (.mk o s z a l) 2000 && formN (.mk o s z a l)) <;> simp)
   refine gn K rfl rfl rfl rfl fun _ K => gn K rfl rfl rfl rfl fun _ K => gn K rfl rfl rfl rfl fun _ K => o1 K (Qj rfl rfl rfl) rfl fun _ K => o1 K (Qc rfl) rfl fun _ K => gn K rfl rfl rfl rfl fun _ K => gn K rfl rfl rfl rfl fun _ K => gn K rfl rfl rfl rfl fun _ K => o1 K (Qj rfl rfl rfl) rfl fun _ K => ?_
   refine Qd ?_
   show W _ _ _ _ _ _ _
   refine Qq (t := true) (K.opd rfl) (fun _ => ?_) (fun h => by cases h)
   refine Qg <| Qa <| o1 K (Qb rfl) rfl fun _ K => Qd ?_
   show W _ _ _ _ _ _ _
   refine Qv ?_
   refine ⟨.inr rfl, _, (Qm (Qp K rfl)), ?_⟩
   exact ⟨⟨false, rfl, fun h => by cases h⟩, M.qt⟩
  replace e12 := of_decide_eq_true e12
  refine gn K rfl rfl rfl rfl fun _ K => gn K rfl rfl rfl rfl fun _ K => gn K rfl rfl rfl rfl fun _ K => o1 K (Qj rfl rfl rfl) rfl fun _ K => o1 K (Qc rfl) rfl fun _ K => gn K rfl rfl rfl rfl fun _ K => gn K rfl rfl rfl rfl fun _ K => gn K rfl rfl rfl rfl fun _ K => o1 K (Qj rfl rfl rfl) rfl fun _ K => ?_
  refine o1 K (Qc rfl) rfl fun _ K => gn K rfl rfl rfl rfl fun _ K => gn K rfl rfl rfl rfl fun _ K => gn K rfl rfl rfl rfl fun _ K => o1 K (Qj rfl rfl rfl) rfl fun _ K => Qd ?_
  show W _ _ _ _ _ _ _
  refine Qq (t := true) (K.opd rfl) (fun _ => ?_) (fun h => by cases h)
  refine Qg <| Qa <| o1 K (Qb rfl) rfl fun _ K => Qd ?_
  show W _ _ _ _ _ _ _
  refine Qv ?_
  refine ⟨.inr rfl, _, (Qm (Qp K rfl)), ?_⟩
  exact ⟨⟨false, rfl, fun h => by cases h⟩, M.qt⟩
 obtain ⟨K, M, hS1, hS2⟩ := hJ
 refine w_cut (J := fun T st9 => KnT [(1, kn)] T ∧ Mem st.h.get st.n [] st9 [(c3, 0, [.str o, .str s, .int .i64 z, .int .i64 a, kk])] ∧ ∀ (j : Nat) (t : Nd), ts[j]? = some t → j < ts.length → szN t ≤ 20 ∧ termN t = true) ?_ (fun T st9 hJ => ?_)
 ·refine Qg <| Qa <| o1 K (Qb rfl) rfl fun _ K => Qd ?_
  show W _ _ _ _ _ _ _
  refine Q6 ?_
  refine w_loop (fun mm1 T st9 => ∃ (i : Nat), mm1 = ts.length - i ∧ KnT [(1, kn), (2, kt), (7, .int .i64 (((i : Nat) : Int)))] T ∧ Mem st.h.get st.n [] st9 [(c3, 0, [.str o, .str s, .int .i64 z, .int .i64 a, kk])] ∧ i ≤ ts.length ∧ ∀ (j : Nat) (t : Nd), ts[j]? = some t → j < i → szN t ≤ 20 ∧ termN t = true) (fun mm1 T st9 hI => ?_) _ _ _ ⟨0, rfl, (.cons (K _ _ rfl) (.cons (K _ _ rfl) (.cons (K _ _ rfl) .nil))), M.less (.refl _), (Nat.zero_le _), (fun j t _ h => absurd h (Nat.not_lt_zero j))⟩
  obtain ⟨i, rfl, K, M, hi, hin⟩ := hI
  refine Qg <| Qg <| Qa <| o1 K (Qc rfl) rfl fun _ K => o1 K (Qc rfl) rfl fun _ K => o1 K (Jm Jg rfl rfl hTs.len) rfl fun _ K => o1 K (os_lss rfl rfl) rfl fun _ K => Qd ?_
  show W _ _ _ _ _ _ _
  refine Qq (K.opd rfl) (fun h30 => ?_) (fun h30 => ?_)
  ·have hb30 := h30
   replace h30 := of_decide_eq_true h30
   refine Qz ?_
   show W _ _ _ _ _ _ _
   refine Qg <| Q6 <| Qg <| Qa <| o1 K (Qc rfl) rfl fun _ K => o1 K (Qc rfl) rfl fun _ K => ?_
   obtain ⟨⟨o35, s35, z35, a35, l35⟩, hi35⟩ : ∃ k, ts[i]? = some k := ⟨_, List.getElem?_eq_getElem (by omega)⟩
   have hm35 := kids_mem hi35
   obtain ⟨_, hc35, hn35⟩ := hTs.get hi35
   have hp35 := hn35
   obtain ⟨kk35, ls35, rfl, hK35, hb35⟩ := hp35.open5
   obtain ⟨x35, m35, f35, q35, _, la35, lo35, lp35⟩ := (hTs.r (M.inH hR)).load (i := i) (cs := _) hc35
   refine o1 K (Qu (j := i) Jk (congrArg some q35) rfl (by rw [hTs.ln]; omega)) rfl fun _ K => o1 K (Qh rfl (la35 _ Qi)) rfl fun _ K => ?_
   obtain ⟨v37, st37, ev37, rfl, q37⟩ := rSize_ev M.fresh (hn35.toN (M.inH hR))
   refine o1 K (Qn rfl ev37) rfl fun _ K => ?_
   replace M := M.quiet q37
   refine o1 K (os_gtr rfl rfl) rfl fun _ K => ?_
   refine oB K (Qc rfl) rfl fun b39 _ e39 K => ?_
   cases b39
   ·replace e39 := of_decide_eq_false e39
    refine og K rfl rfl (Qc rfl) rfl fun _ K => og K rfl rfl (Qc rfl) rfl fun _ K => ?_
    obtain ⟨⟨o42, s42, z42, a42, l42⟩, hi42⟩ : ∃ k, ts[i]? = some k := ⟨_, List.getElem?_eq_getElem (by omega)⟩
    have hm42 := kids_mem hi42
    obtain ⟨_, hc42, hn42⟩ := hTs.get hi42
    have hp42 := hn42
    obtain ⟨kk42, ls42, rfl, hK42, hb42⟩ := hp42.open5
    obtain ⟨x42, m42, f42, q42, _, la42, lo42, lp42⟩ := (hTs.r (M.inH hR)).load (i := i) (cs := _) hc42
    refine og K rfl rfl (Qu (j := i) Jk (congrArg some q42) rfl (by rw [hTs.ln]; omega)) rfl fun _ K => og K rfl rfl (Qh rfl (la42 _ Qi)) rfl fun _ K => ?_
    obtain ⟨v44, st44, ev44, rfl, q44⟩ := rIsTerm_ev M.fresh (hn42.toN (M.inH hR))
    refine og K rfl rfl (Qn rfl ev44) rfl fun _ K => ?_
    replace M := M.quiet q44
    refine og K rfl rfl (os_not rfl) rfl fun _ K => o1 K (Qj rfl rfl rfl) rfl fun _ K => Qd ?_
    show W _ _ _ _ _ _ _
    refine Qq (K.opd rfl) (fun h46 => ?_) (fun h46 => ?_)
    ·have hb46 := h46
     replace h46 : (smallB (.mk o42 s42 z42 a42 l42) 2000 && termN (.mk o42 s42 z42 a42 l42)) = false := by first | simpa using h46 | (revert h46; cases (smallB (.mk o42 s42 z42 a42 l42) 2000 && termN (.mk o42 s42 z42 a42 l42)) <;> simp)
     refine Qg <| Qa <| o1 K (Qb rfl) rfl fun _ K => Qd ?_
     show W _ _ _ _ _ _ _
     refine Qv ?_
     refine ⟨.inr rfl, _, (Qm (Qp K rfl)), ?_⟩
     exact ⟨⟨false, rfl, fun h => by cases h⟩, M.qt⟩
    have hb46 := h46
    replace h46 : (smallB (.mk o42 s42 z42 a42 l42) 2000 && termN (.mk o42 s42 z42 a42 l42)) = true := by first | simpa using h46 | (revert h46; cases (smallB (.mk o42 s42 z42 a42 l42) 2000 && termN (.mk o42 s42 z42 a42 l42)) <;> simp)
    refine Qz ?_
    show W _ _ _ _ _ _ _
    refine Qa <| o1 K (Qc rfl) rfl fun _ K => o1 K (Jj rfl rfl (by omega) (by omega)) rfl fun _ K => o1 K (Qb rfl) rfl fun _ K => Qd ?_
    exact ⟨_, (by omega), i + 1, rfl, (.cons (K _ _ rfl) (.cons (K _ _ rfl) (.cons (K _ _ rfl) .nil))), M.less (.refl _), (by omega), (fun j t hj hlt => by rcases Nat.lt_succ_iff_lt_or_eq.1 hlt with h | h; exact hin j t hj h; (subst h; have e := hi35.symm.trans hj; injection e with e; subst e; exact ⟨by simp_all <;> omega, by simp_all⟩))⟩
   replace e39 := of_decide_eq_true e39
   refine gn K rfl rfl rfl rfl fun _ K => gn K rfl rfl rfl rfl fun _ K => gn K rfl rfl rfl rfl fun _ K => gn K rfl rfl rfl rfl fun _ K => gn K rfl rfl rfl rfl fun _ K => gn K rfl rfl rfl rfl fun _ K => o1 K (Qj rfl rfl rfl) rfl fun _ K => Qd ?_
   show W _ _ _ _ _ _ _
   refine Qq (t := true) (K.opd rfl) (fun _ => ?_) (fun h => by cases h)
   refine Qg <| Qa <| o1 K (Qb rfl) rfl fun _ K => Qd ?_
   show W _ _ _ _ _ _ _
   refine Qv ?_
   refine ⟨.inr rfl, _, (Qm (Qp K rfl)), ?_⟩
   exact ⟨⟨false, rfl, fun h => by cases h⟩, M.qt⟩
  have hb30 := h30
  replace h30 := of_decide_eq_false h30
  refine J6 ?_
  exact ⟨(.cons (K _ _ rfl) .nil), M.less (.refl _), (fun j t hj hlt => hin j t hj (by omega))⟩
 obtain ⟨K, M, hts⟩ := hJ
 refine Qg <| Qg <| Qa <| o1 K (Qb rfl) rfl fun _ K => Qd ?_
 show W _ _ _ _ _ _ _
 refine Q6 ?_
 refine w_loop (fun mm2 T st9 => ∃ (i : Nat), mm2 = ns.length - i ∧ KnT [(1, kn), (8, .int .i64 (((i : Nat) : Int)))] T ∧ Mem st.h.get st.n [] st9 [(c3, 0, [.str o, .str s, .int .i64 z, .int .i64 a, kk])] ∧ i ≤ ns.length ∧ ∀ (j : Nat) (x : List Nat), ns[j]? = some x → j < i → x.length ≤ 50) (fun mm2 T st9 hI => ?_) _ _ _ ⟨0, rfl, (.cons (K _ _ rfl) (.cons (K _ _ rfl) .nil)), M.less (.refl _), (Nat.zero_le _), (fun j t _ h => absurd h (Nat.not_lt_zero j))⟩
 obtain ⟨i, rfl, K, M, hi, hns⟩ := hI
 refine Qg <| Qg <| Qa <| o1 K (Qc rfl) rfl fun _ K => o1 K (Qc rfl) rfl fun _ K => o1 K (Jm Jv rfl rfl (hN.len.trans (congrArg some (Qw _)))) rfl fun _ K => o1 K (os_lss rfl rfl) rfl fun _ K => Qd ?_
 show W _ _ _ _ _ _ _
 refine Qq (K.opd rfl) (fun h50 => ?_) (fun h50 => ?_)
 ·have hb50 := h50
  replace h50 := of_decide_eq_true h50
  refine Qz ?_
  show W _ _ _ _ _ _ _
  refine Qg <| Q6 <| Qg <| Qa <| o1 K (Qc rfl) rfl fun _ K => o1 K (Qc rfl) rfl fun _ K => ?_
  obtain ⟨y55, hi55⟩ : ∃ x, ns[i]? = some x := ⟨_, List.getElem?_eq_getElem (by omega)⟩
  obtain ⟨x55, m55, f55, q55, _, la55, lo55, lp55⟩ := (RdR.mem M hN (by simp)).load (i := i) (cs := _) (txC_get hi55)
  refine o1 K (Qu (j := i) Ja (congrArg some q55) rfl (by rw [Qw]; omega)) rfl fun _ K => o1 K (Qh rfl (lo55 _ 0 _ Qr rfl)) rfl fun _ K => o1 K (os_lenS un_string rfl rfl) rfl fun _ K => o1 K (os_gtr rfl rfl) rfl fun _ K => Qd ?_
  show W _ _ _ _ _ _ _
  refine Qq (K.opd rfl) (fun h58 => ?_) (fun h58 => ?_)
  ·have hb58 := h58
   replace h58 := of_decide_eq_true h58
   refine Qg <| Qa <| o1 K (Qb rfl) rfl fun _ K => Qd ?_
   show W _ _ _ _ _ _ _
   refine Qv ?_
   refine ⟨.inr rfl, _, (Qm (Qp K rfl)), ?_⟩
   exact ⟨⟨false, rfl, fun h => by cases h⟩, M.qt⟩
  have hb58 := h58
  replace h58 := of_decide_eq_false h58
  refine Qz ?_
  show W _ _ _ _ _ _ _
  refine Qa <| o1 K (Qc rfl) rfl fun _ K => o1 K (Jj rfl rfl (by omega) (by omega)) rfl fun _ K => o1 K (Qb rfl) rfl fun _ K => Qd ?_
  exact ⟨_, (by omega), i + 1, rfl, (.cons (K _ _ rfl) (.cons (K _ _ rfl) .nil)), M.less (.refl _), (by omega), (fun j t hj hlt => by rcases Nat.lt_succ_iff_lt_or_eq.1 hlt with h | h; exact hns j t hj h; (subst h; have e := hi55.symm.trans hj; injection e with e; subst e; omega))⟩
 have hb50 := h50
 replace h50 := of_decide_eq_false h50
 refine J6 ?_
 show W _ _ _ _ _ _ _
 refine Qg <| Qa <| o1 K (Qb rfl) rfl fun _ K => Qd ?_
 show W _ _ _ _ _ _ _
 refine Qv ?_
 refine ⟨.inr rfl, _, (Qm (Qp K rfl)), ?_⟩
 refine ⟨⟨true, rfl, fun _ => ⟨by simp_all, by simp_all, fun t ht => ?_, fun x hx => ?_⟩⟩, M.qt⟩
 ·obtain ⟨j, hj⟩ := List.getElem?_of_mem ht
  exact hts _ _ hj (by have := (List.getElem?_eq_some_iff.1 hj).1; omega)
 ·obtain ⟨j, hj⟩ := List.getElem?_of_mem hx
  exact hns _ _ hj (by have := (List.getElem?_eq_some_iff.1 hj).1; omega)

end Go.Proofs.YtmjnbdkjekdkgaaDoor
end

section
namespace Go.Proofs.YtmjnbdkjekdkgaaDoor
open Go Go.RowKit
set_option linter.unusedVariables false
set_option linter.unusedSimpArgs false
set_option linter.unnecessarySimpa false
set_option maxRecDepth 100000
set_option maxHeartbeats 1000000

theorem szL_map {B : Nat} {f : Nd → Nd} : ∀ {l : List Nd}, (∀ k ∈ l, szN (f k) ≤ szN k * B) → szL (l.map f) ≤ szL l * B := by
 intro l
 induction l with
 | nil => intro _; simp [szL]
 | cons k l ih =>
  intro h
  rw [List.map_cons, szL, szL, Nat.add_mul]
  exact Nat.add_le_add (h k (List.mem_cons_self ..)) (ih fun k hk => h k (List.mem_cons_of_mem _ hk))
theorem joinN_size (op name : List Nat) (n a : Int) (kids : List Nd) : szN (joinN op name n a kids) ≤ szL kids + 1 := by
 unfold joinN
 split
 ·split
  ·rename_i k
   obtain ⟨o, s, z, b, l⟩ := k
   split
   ·rw [szN, szL]; omega
   ·split
    ·show szN (.mk op name _ a l) ≤ _
     rw [szN, szL, szN, szL]; omega
    ·rw [szN]; omega
  ·rw [szN]; omega
 ·rw [szN]; omega
theorem bound_ts {cnt : List Nat → Int} {name : List Nat} {kids : List Nd} {ns : List (List Nat)} {ts : List Nd} : ∀ t ∈ (boundX cnt name kids ns ts).ts, t ∈ ts ∨ szN t = 1 := by
 intro t ht
 have hpl : ∀ p ∈ onlyN ns ts name (freeK kids), p.2 ∈ ts := fun p hp => lookT_mem (onlyN_mem hp).2.2
 cases hc : (onlyN ns ts name (freeK kids)).any (fun p => inB name (freeN p.2)) with
 | true =>
  rw [boundX_yes rfl hc] at ht
  rcases List.mem_append.1 ht with ht | ht
  ·obtain ⟨p, hp, rfl⟩ := List.mem_map.1 ht
   exact .inl (hpl p hp)
  ·rw [List.mem_singleton] at ht
   subst ht
   exact .inr (by simp [szN, szL])
 | false =>
  rw [boundX_no rfl hc] at ht
  obtain ⟨p, hp, rfl⟩ := List.mem_map.1 ht
  exact .inl (hpl p hp)
theorem put_size (cnt : List Nat → Int) {B : Nat} (hB : 1 ≤ B) (x : Nd) : ∀ (ns : List (List Nat)) (ts : List Nd), (∀ t ∈ ts, szN t ≤ B) → szN (putN cnt x ns ts) ≤ szN x * B := by
 refine nd_rec (M := fun x => ∀ (ns : List (List Nat)) (ts : List Nd), (∀ t ∈ ts, szN t ≤ B) → szN (putN cnt x ns ts) ≤ szN x * B) (fun op name n a kids ih ns ts ht => ?_) x
 have hk : ∀ (ns : List (List Nat)) (ts : List Nd), (∀ t ∈ ts, szN t ≤ B) → szL (putL cnt kids ns ts) ≤ szL kids * B := fun ns ts ht => by
  rw [putL_map]
  exact szL_map fun k hk => ih k hk ns ts ht
 have hself : szL kids + 1 ≤ (szL kids + 1) * B := Nat.le_mul_of_pos_right _ hB
 rw [szN, putN]
 split
 ·split
  ·rename_i t h
   rw [setAt_len]
   have := ht t (lookT_mem h)
   exact Nat.le_trans this (Nat.le_mul_of_pos_left _ (Nat.succ_pos _))
  ·rw [szN]; exact hself
 ·split
  ·split
   ·rw [szN]; exact hself
   ·rw [szN]; exact hself
  ·split
   ·rw [szN]
    have := hk (boundX cnt name kids ns ts).ns (boundX cnt name kids ns ts).ts fun t h => by
     rcases bound_ts t h with h | h
     ·exact ht t h
     ·omega
    rw [Nat.add_mul]; omega
   ·have h1 := joinN_size op name n a (putL cnt kids ns ts)
    have h2 := hk ns ts ht
    rw [Nat.add_mul]; omega
theorem wantN_step {name : List Nat} {k l : List (List Nat)} {i : Nat} {y : List Nat} {acc : List (List Nat)} (h : l[i]? = some y) : wantN name k (l.drop i) acc = wantN name k (l.drop (i + 1)) (if y = name then insAll acc k else insN y acc) := by
 obtain ⟨h1, h2⟩ := List.getElem?_eq_some_iff.1 h
 rw [List.drop_eq_getElem_cons h1, wantN, h2]
theorem insAll_step {l acc : List (List Nat)} {j : Nat} {y : List Nat} (h : l[j]? = some y) : insAll acc (l.drop j) = insAll (insN y acc) (l.drop (j + 1)) := by
 obtain ⟨h1, h2⟩ := List.getElem?_eq_some_iff.1 h
 rw [List.drop_eq_getElem_cons h1, h2, insAll_cons]

theorem freeLeaves_ev {o s : List Nat} {z a : Int} {l : List Nd} {st : St} {cs : List AV} (hf : Fresh st) (hrN : RdN st.h.get (.mk o s z a l) cs) (nm : List Nat) (hbm : Bytes nm) {ow sw : List Nat} {zw aw : Int} {lw : List Nd} {cw : List AV} (hrwN : RdN st.h.get (.mk ow sw zw aw lw) cw) : ∃ v st', Ev Tryd.prog envD 6 [.agg cs, .str nm, .agg cw] st v st' ∧ v = .bool true := by
 have hr := hrN.toG
 have hrw := hrwN.toG
 have hR := inH_self st.h.get
 have hr0 := hr
 obtain ⟨kk, ls, rfl, hK, hb⟩ := hr.open5
 have hln := hK.ln
 have hbn := hK.bnd
 have hrw0 := hrw
 obtain ⟨kkw, lsw, rfl, hKw, hbw⟩ := hrw.open5
 refine J8 rfl Tryd.func6 rfl Tryd.ntmps6 rfl (by decide) (by simp) fun T hT => ?_
 have K : KnT [(0, _), (1, _), (2, _)] T := (.cons (hT 0) (.cons (hT 1) (.cons (hT 2) .nil)))
 have M := Mem.start hf
 refine Qg <| Qa ?_
 refine Uf K M rfl (Qf rfl (Qf rfl (Qf rfl (Qf rfl (Qf hK.cell Jc))))) (by decide) fun c3 _ _ K M => ?_
 refine Uf K M rfl (Qf rfl (Qf rfl (Qf rfl (Qf rfl (Qf hKw.cell Jc))))) (by decide) fun c5 _ _ K M => ?_
 refine o1 K (Qb rfl) rfl fun _ K => Qd ?_
 show W _ _ _ _ _ _ _
 refine Qg <| Qg <| Qa <| o1 K (Qe Jb rfl) rfl fun _ K => o1 K (Qh rfl (M.load (k := 0) rfl (Qk Qr rfl))) rfl fun _ K => o1 K (os_neS (b := [118, 97, 114]) rfl rfl) rfl fun _ K => ?_
 refine oB K (Qc rfl) rfl fun b16 _ e16 K => ?_
 cases b16
 · replace e16 : (ow = [118, 97, 114]) := by simpa using e16
   refine og K rfl rfl (Qh rfl (M.load (k := 1) rfl (Ql Qi rfl))) rfl fun _ K => og K rfl rfl (Qc rfl) rfl fun _ K => ?_
   refine wr_gbs K rfl rfl M Q5 J9 rfl rfl rfl rfl rfl fun c19 _ _ K M => ?_
   refine og K rfl rfl (Qh rfl (M.load (k := 1) rfl (Ql Qi rfl))) rfl fun _ K => ?_
   refine wr_gbs K rfl rfl M Ug Jl rfl rfl (Qf rfl (Qf rfl (Qf rfl (Qf rfl (Qf hKw.cell Jc))))) rfl rfl fun c21 _ _ K M => ?_
   replace M : Mem st.h.get st.n [] _ [(c21, 0, [.str ow, .str sw, .int .i64 zw, .int .i64 aw, kkw]), (c19, 0, [.str nm]), (c5, 0, [.str ow, .str sw, .int .i64 zw, .int .i64 aw, kkw]), (c3, 0, [.str o, .str s, .int .i64 z, .int .i64 a, kk])] := M
   obtain ⟨v22, st22, ev22, ⟨mb22, rfl, hm22⟩, q22⟩ := may7_ev (ns := [nm]) (ts := [(.mk ow sw zw aw lw)]) M.fresh (M.inHB hR (B := [(c21, 0, [.str ow, .str sw, .int .i64 zw, .int .i64 aw, kkw])]) (by intro x hx; simp at hx; subst hx; simp)) (own_tx (M.row1 (k := 1) rfl)) (own_kid hrw0) (hr0.mono fun _ _ _ h => .inl h)
   refine og K rfl rfl (Qn rfl ev22) rfl fun _ K => ?_
   replace M := M.quiet q22
   refine og K rfl rfl (os_not rfl) rfl fun _ K => o1 K (Qj rfl rfl rfl) rfl fun _ K => Qd ?_
   show W _ _ _ _ _ _ _
   refine Qq (K.opd rfl) (fun h24 => ?_) (fun h24 => ?_)
   · have hb24 := h24
     replace h24 : (mb22) = false := by first | simpa using h24 | (revert h24; cases (mb22) <;> simp)
     refine Qg <| Qa <| o1 K (Qb rfl) rfl fun _ K => Qd ?_
     show W _ _ _ _ _ _ _
     refine Qv ?_
     refine ⟨.inr rfl, _, (Qm (Qp K rfl)), ?_⟩
     first
      | rfl
      | (simp_all; done)
      | (exfalso; simp_all; done)
   have hb24 := h24
   replace h24 : (mb22) = true := by first | simpa using h24 | (revert h24; cases (mb22) <;> simp)
   refine Qz ?_
   show W _ _ _ _ _ _ _
   refine Qg <| Qa <| o1 K (Qb rfl) rfl fun _ K => Qd ?_
   show W _ _ _ _ _ _ _
   refine Qg ?_
   refine w_drawI (l := [(0, 0), (1, 0), (2, 1), (3, 0), (4, 0), (5, 0)]) (by kernel_rfl) ?_
   have Mq := M
   refine d1 rfl K (Qh rfl (M.load (k := 3) rfl (Ql Qi rfl))) rfl rfl fun _ K => ?_
   obtain ⟨hm1, hm2, hm3, _⟩ := hm22 (by simp_all)
   have hok : okN (.mk o s z a l) := .inl hm2
   have hwt := hm3 _ (List.mem_singleton_self _)
   have hrl1 := refN_len (.mk o s z a l)
   have hrl2 := refN_len (.mk ow sw zw aw lw)
   obtain ⟨v26, st26, ev26, ks26, rfl, nr26, q26⟩ := rNames_ev _ _ _ M.fresh (hr0.toN (M.inH hR)) (by omega)
   refine dA rfl K (Qn rfl ev26) rfl rfl fun _ K => ?_
   obtain ⟨A26, hA26, M⟩ := M.callAcc q26 nr26
   replace M := Mem.cast (M' := ((c21, 0, [.str ow, .str sw, .int .i64 zw, .int .i64 aw, kkw]) :: (c19, 0, [.str nm]) :: (c5, 0, [.str ow, .str sw, .int .i64 zw, .int .i64 aw, kkw]) :: (c3, 0, [.str o, .str s, .int .i64 z, .int .i64 a, kk]) :: (A26 ++ []))) M (by first | (simp only [List.append_assoc, List.cons_append, List.nil_append, List.append_nil, List.set_cons_zero, List.set_cons_succ]; done) | (simp only [List.append_assoc, List.cons_append, List.nil_append, List.append_nil, List.set_cons_zero, List.set_cons_succ]; rfl))
   have Mp := Mq
   have Mq := M
   refine wd_load1 rfl K rfl (M.load (k := 2) rfl (Ql Qi rfl)) (Mp.load (k := 2) rfl (Ql Qi rfl)) (eqV_agg (by simp [eqOk_str, eqOk_int, eqOk_bool, eqOk_len hKw.len])) rfl (by decide) fun _ K => ?_
   obtain ⟨v28, st28, ev28, ks28, rfl, nr28, q28⟩ := rNames_ev _ _ _ M.fresh (hrw0.toN (M.inH hR)) (by omega)
   refine dA rfl K (Qn rfl ev28) rfl rfl fun _ K => ?_
   obtain ⟨A28, hA28, M⟩ := M.callAcc q28 nr28
   replace M := Mem.cast (M' := ((c21, 0, [.str ow, .str sw, .int .i64 zw, .int .i64 aw, kkw]) :: (c19, 0, [.str nm]) :: (c5, 0, [.str ow, .str sw, .int .i64 zw, .int .i64 aw, kkw]) :: (c3, 0, [.str o, .str s, .int .i64 z, .int .i64 a, kk]) :: (A26 ++ (A28 ++ [])))) M (by first | (simp only [List.append_assoc, List.cons_append, List.nil_append, List.append_nil, List.set_cons_zero, List.set_cons_succ]; done) | (simp only [List.append_assoc, List.cons_append, List.nil_append, List.append_nil, List.set_cons_zero, List.set_cons_succ]; rfl))
   have Mp := Mq
   have Mq := M
   refine d1 rfl K (Qb rfl) rfl rfl fun _ K => d1 rfl K (Qb rfl) rfl rfl fun _ K => wd_nil ?_
   show W _ _ _ _ _ _ _
   refine Qg <| Qg <| Qa <| o1 K (Qb rfl) rfl fun _ K => Qd ?_
   show W _ _ _ _ _ _ _
   refine Q6 ?_
   refine w_loop (fun mm1 T st9 => ∃ (i : Nat) (nl : List (List Nat)) (ks : AV) (A : Rows0), mm1 = (refN (.mk o s z a l)).length - i ∧ KnT [(1, .str nm), (3, .ptr c3 0 0), (5, .ptr c5 0 0), (6, .bool false), (7, ks), (8, v26), (9, v28), (10, .int .i64 (((i : Nat) : Int)))] T ∧ Mem st.h.get st.n [] st9 ((c21, 0, [.str ow, .str sw, .int .i64 zw, .int .i64 aw, kkw]) :: (c19, 0, [.str nm]) :: (c5, 0, [.str ow, .str sw, .int .i64 zw, .int .i64 aw, kkw]) :: (c3, 0, [.str o, .str s, .int .i64 z, .int .i64 a, kk]) :: (A26 ++ (A28 ++ (A ++ [])))) ∧ Acc st.n 1 A ks (txC nl) ∧ i ≤ (refN (.mk o s z a l)).length ∧ wantN nm (refN (.mk ow sw zw aw lw)) (refN (.mk o s z a l)) [] = wantN nm (refN (.mk ow sw zw aw lw)) ((refN (.mk o s z a l)).drop i) nl ∧ nl.length ≤ i * 21) (fun mm1 T st9 hI => ?_) _ _ _ ⟨0, [], .nils, [], rfl, (.cons (K _ _ rfl) (.cons (K _ _ rfl) (.cons (K _ _ rfl) (.cons (K _ _ rfl) (.cons (K _ _ rfl) (.cons (K _ _ rfl) (.cons (K _ _ rfl) (.cons (K _ _ rfl) .nil)))))))), M.less (.refl _), .none, (Nat.zero_le _), rfl, (Nat.zero_le _)⟩
   obtain ⟨i, nl, ks, A, rfl, K, M, hA, hi, hinv, hnl⟩ := hI
   refine Qg <| Qg <| Qa <| o1 K (Qc rfl) rfl fun _ K => o1 K (Qc rfl) rfl fun _ K => o1 K (Jm Jv rfl rfl (hA26.len.trans (congrArg some (Qw _)))) rfl fun _ K => o1 K (os_lss rfl rfl) rfl fun _ K => Qd ?_
   show W _ _ _ _ _ _ _
   refine Qq (K.opd rfl) (fun h32 => ?_) (fun h32 => ?_)
   · have hb32 := h32
     replace h32 := of_decide_eq_true h32
     refine Qz ?_
     show W _ _ _ _ _ _ _
     refine Qg <| Q6 <| Qg <| Qg <| Qa <| o1 K (Qc rfl) rfl fun _ K => o1 K (Qc rfl) rfl fun _ K => ?_
     obtain ⟨y37, hi37⟩ : ∃ x, (refN (.mk o s z a l))[i]? = some x := ⟨_, List.getElem?_eq_getElem (by omega)⟩
     obtain ⟨x37, m37, f37, q37, _, la37, lo37, lp37⟩ := (Mem.accR (L := [(c21, 0, [.str ow, .str sw, .int .i64 zw, .int .i64 aw, kkw]), (c19, 0, [.str nm]), (c5, 0, [.str ow, .str sw, .int .i64 zw, .int .i64 aw, kkw]), (c3, 0, [.str o, .str s, .int .i64 z, .int .i64 a, kk])]) (A := A26) (B := (A28 ++ (A ++ []))) M hA26).load (i := i) (cs := _) (txC_get hi37)
     refine o1 K (Qu (j := i) Ja (congrArg some q37) rfl (by rw [Qw]; omega)) rfl fun _ K => o1 K (Qh rfl (lo37 _ 0 _ Qr rfl)) rfl fun _ K => o1 K (Qc rfl) rfl fun _ K => o1 K (os_neS rfl rfl) rfl fun _ K => Qd ?_
     show W _ _ _ _ _ _ _
     refine Qq (K.opd rfl) (fun h40 => ?_) (fun h40 => ?_)
     · have hb40 := h40
       replace h40 : ¬ (y37 = nm) := by simpa using h40
       refine Qg <| Qa <| o1 K (Qc rfl) rfl fun _ K => o1 K (Qc rfl) rfl fun _ K => o1 K (Qc rfl) rfl fun _ K => ?_
       obtain ⟨y44, hi44⟩ : ∃ x, (refN (.mk o s z a l))[i]? = some x := ⟨_, List.getElem?_eq_getElem (by omega)⟩
       obtain ⟨x44, m44, f44, q44, _, la44, lo44, lp44⟩ := (Mem.accR (L := [(c21, 0, [.str ow, .str sw, .int .i64 zw, .int .i64 aw, kkw]), (c19, 0, [.str nm]), (c5, 0, [.str ow, .str sw, .int .i64 zw, .int .i64 aw, kkw]), (c3, 0, [.str o, .str s, .int .i64 z, .int .i64 a, kk])]) (A := A26) (B := (A28 ++ (A ++ []))) M hA26).load (i := i) (cs := _) (txC_get hi44)
       refine o1 K (Qu (j := i) Ja (congrArg some q44) rfl (by rw [Qw]; omega)) rfl fun _ K => o1 K (Qh rfl (lo44 _ 0 _ Qr rfl)) rfl fun _ K => ?_
       obtain ⟨nb46, hno46⟩ := hA.nilOr
       obtain ⟨v46, st46, ev46, ks46, rfl, hor46, q46⟩ := txAdd_ev M.fresh (bl := nl) (Mem.accR (L := ((c21, 0, [.str ow, .str sw, .int .i64 zw, .int .i64 aw, kkw]) :: (c19, 0, [.str nm]) :: (c5, 0, [.str ow, .str sw, .int .i64 zw, .int .i64 aw, kkw]) :: (c3, 0, [.str o, .str s, .int .i64 z, .int .i64 a, kk]) :: (A26 ++ (A28 ++ [])))) (A := A) (B := []) (Mem.cast (M := ((c21, 0, [.str ow, .str sw, .int .i64 zw, .int .i64 aw, kkw]) :: (c19, 0, [.str nm]) :: (c5, 0, [.str ow, .str sw, .int .i64 zw, .int .i64 aw, kkw]) :: (c3, 0, [.str o, .str s, .int .i64 z, .int .i64 a, kk]) :: (A26 ++ (A28 ++ (A ++ []))))) (M' := ((c21, 0, [.str ow, .str sw, .int .i64 zw, .int .i64 aw, kkw]) :: (c19, 0, [.str nm]) :: (c5, 0, [.str ow, .str sw, .int .i64 zw, .int .i64 aw, kkw]) :: (c3, 0, [.str o, .str s, .int .i64 z, .int .i64 a, kk]) :: (A26 ++ (A28 ++ []))) ++ (A ++ [])) M (by first | (simp only [List.append_assoc, List.cons_append, List.nil_append, List.append_nil, List.set_cons_zero, List.set_cons_succ]; done) | (simp only [List.append_assoc, List.cons_append, List.nil_append, List.append_nil, List.set_cons_zero, List.set_cons_succ]; rfl))) hA) y44 hno46 (by first | decide | omega)
       refine o1 K (Qn rfl ev46) rfl fun _ K => ?_
       obtain ⟨A46, hA46, M⟩ := Mem.callAdd (L := ((c21, 0, [.str ow, .str sw, .int .i64 zw, .int .i64 aw, kkw]) :: (c19, 0, [.str nm]) :: (c5, 0, [.str ow, .str sw, .int .i64 zw, .int .i64 aw, kkw]) :: (c3, 0, [.str o, .str s, .int .i64 z, .int .i64 a, kk]) :: (A26 ++ (A28 ++ [])))) (A := A) (B := []) (Mem.cast (M := ((c21, 0, [.str ow, .str sw, .int .i64 zw, .int .i64 aw, kkw]) :: (c19, 0, [.str nm]) :: (c5, 0, [.str ow, .str sw, .int .i64 zw, .int .i64 aw, kkw]) :: (c3, 0, [.str o, .str s, .int .i64 z, .int .i64 a, kk]) :: (A26 ++ (A28 ++ (A ++ []))))) (M' := ((c21, 0, [.str ow, .str sw, .int .i64 zw, .int .i64 aw, kkw]) :: (c19, 0, [.str nm]) :: (c5, 0, [.str ow, .str sw, .int .i64 zw, .int .i64 aw, kkw]) :: (c3, 0, [.str o, .str s, .int .i64 z, .int .i64 a, kk]) :: (A26 ++ (A28 ++ []))) ++ (A ++ [])) M (by first | (simp only [List.append_assoc, List.cons_append, List.nil_append, List.append_nil, List.set_cons_zero, List.set_cons_succ]; done) | (simp only [List.append_assoc, List.cons_append, List.nil_append, List.append_nil, List.set_cons_zero, List.set_cons_succ]; rfl))) hA q46 hor46
       replace M := Mem.cast (M' := ((c21, 0, [.str ow, .str sw, .int .i64 zw, .int .i64 aw, kkw]) :: (c19, 0, [.str nm]) :: (c5, 0, [.str ow, .str sw, .int .i64 zw, .int .i64 aw, kkw]) :: (c3, 0, [.str o, .str s, .int .i64 z, .int .i64 a, kk]) :: (A26 ++ (A28 ++ (A46 ++ []))))) M (by first | (simp only [List.append_assoc, List.cons_append, List.nil_append, List.append_nil, List.set_cons_zero, List.set_cons_succ]; done) | (simp only [List.append_assoc, List.cons_append, List.nil_append, List.append_nil, List.set_cons_zero, List.set_cons_succ]; rfl))
       refine o1 K (Qb rfl) rfl fun _ K => Qd ?_
       show W _ _ _ _ _ _ _
       refine J6 ?_
       show W _ _ _ _ _ _ _
       refine Qa <| o1 K (Qc rfl) rfl fun _ K => o1 K (Jj rfl rfl (by omega) (by omega)) rfl fun _ K => o1 K (Qb rfl) rfl fun _ K => Qd ?_
       have e44 : y37 = y44 := by have e := hi37.symm.trans hi44; injection e
       subst e44
       exact ⟨_, (by omega), i + 1, insN y37 nl, v46, A46, rfl, (.cons (K _ _ rfl) (.cons (K _ _ rfl) (.cons (K _ _ rfl) (.cons (K _ _ rfl) (.cons (K _ _ rfl) (.cons (K _ _ rfl) (.cons (K _ _ rfl) (.cons (K _ _ rfl) .nil)))))))), M.less (.refl _), (by assumption), (by omega), (by first | (rw [hinv, wantN_step hi37, if_neg (by simp_all)]; done) | (rw [hinv, wantN_step hi37, if_pos (by simp_all), hinv2, Jf (l := refN (.mk ow sw zw aw lw)) (i := j) (by omega), insAll_nil]; done)), (by first | (have hil := insN_len y37 nl; omega) | omega)⟩
     have hb40 := h40
     replace h40 : (y37 = nm) := by simpa using h40
     refine Qz ?_
     show W _ _ _ _ _ _ _
     refine Qg <| Qa <| o1 K (Qb rfl) rfl fun _ K => Qd ?_
     show W _ _ _ _ _ _ _
     refine Q6 ?_
     refine w_loop (fun mm2 T st9 => ∃ (j : Nat) (nl2 : List (List Nat)) (ks2 : AV) (A2 : Rows0), mm2 = (refN (.mk ow sw zw aw lw)).length - j ∧ KnT [(1, .str nm), (3, .ptr c3 0 0), (5, .ptr c5 0 0), (6, .bool false), (7, ks2), (8, v26), (9, v28), (10, .int .i64 (((i : Nat) : Int))), (11, .int .i64 (((j : Nat) : Int)))] T ∧ Mem st.h.get st.n [] st9 ((c21, 0, [.str ow, .str sw, .int .i64 zw, .int .i64 aw, kkw]) :: (c19, 0, [.str nm]) :: (c5, 0, [.str ow, .str sw, .int .i64 zw, .int .i64 aw, kkw]) :: (c3, 0, [.str o, .str s, .int .i64 z, .int .i64 a, kk]) :: (A26 ++ (A28 ++ (A2 ++ [])))) ∧ Acc st.n 1 A2 ks2 (txC nl2) ∧ j ≤ (refN (.mk ow sw zw aw lw)).length ∧ insAll nl (refN (.mk ow sw zw aw lw)) = insAll nl2 ((refN (.mk ow sw zw aw lw)).drop j) ∧ nl2.length ≤ nl.length + j) (fun mm2 T st9 hI => ?_) _ _ _ ⟨0, nl, ks, A, rfl, (.cons (K _ _ rfl) (.cons (K _ _ rfl) (.cons (K _ _ rfl) (.cons (K _ _ rfl) (.cons (K _ _ rfl) (.cons (K _ _ rfl) (.cons (K _ _ rfl) (.cons (K _ _ rfl) (.cons (K _ _ rfl) .nil))))))))), M.less (.refl _), hA, (Nat.zero_le _), rfl, (Nat.le_refl _)⟩
     obtain ⟨j, nl2, ks2, A2, rfl, K, M, hA2, hj, hinv2, hnl2⟩ := hI
     refine Qg <| Qg <| Qa <| o1 K (Qc rfl) rfl fun _ K => o1 K (Qc rfl) rfl fun _ K => o1 K (Jm Jv rfl rfl (hA28.len.trans (congrArg some (Qw _)))) rfl fun _ K => o1 K (os_lss rfl rfl) rfl fun _ K => Qd ?_
     show W _ _ _ _ _ _ _
     refine Qq (K.opd rfl) (fun h50 => ?_) (fun h50 => ?_)
     · have hb50 := h50
       replace h50 := of_decide_eq_true h50
       refine Qz ?_
       show W _ _ _ _ _ _ _
       refine Qg <| Q6 <| Qa <| o1 K (Qc rfl) rfl fun _ K => o1 K (Qc rfl) rfl fun _ K => o1 K (Qc rfl) rfl fun _ K => ?_
       obtain ⟨y56, hi56⟩ : ∃ x, (refN (.mk ow sw zw aw lw))[j]? = some x := ⟨_, List.getElem?_eq_getElem (by omega)⟩
       obtain ⟨x56, m56, f56, q56, _, la56, lo56, lp56⟩ := (Mem.accR (L := ((c21, 0, [.str ow, .str sw, .int .i64 zw, .int .i64 aw, kkw]) :: (c19, 0, [.str nm]) :: (c5, 0, [.str ow, .str sw, .int .i64 zw, .int .i64 aw, kkw]) :: (c3, 0, [.str o, .str s, .int .i64 z, .int .i64 a, kk]) :: (A26 ++ []))) (A := A28) (B := (A2 ++ [])) (Mem.cast (M := ((c21, 0, [.str ow, .str sw, .int .i64 zw, .int .i64 aw, kkw]) :: (c19, 0, [.str nm]) :: (c5, 0, [.str ow, .str sw, .int .i64 zw, .int .i64 aw, kkw]) :: (c3, 0, [.str o, .str s, .int .i64 z, .int .i64 a, kk]) :: (A26 ++ (A28 ++ (A2 ++ []))))) (M' := ((c21, 0, [.str ow, .str sw, .int .i64 zw, .int .i64 aw, kkw]) :: (c19, 0, [.str nm]) :: (c5, 0, [.str ow, .str sw, .int .i64 zw, .int .i64 aw, kkw]) :: (c3, 0, [.str o, .str s, .int .i64 z, .int .i64 a, kk]) :: (A26 ++ [])) ++ (A28 ++ (A2 ++ []))) M (by first | (simp only [List.append_assoc, List.cons_append, List.nil_append, List.append_nil, List.set_cons_zero, List.set_cons_succ]; done) | (simp only [List.append_assoc, List.cons_append, List.nil_append, List.append_nil, List.set_cons_zero, List.set_cons_succ]; rfl))) hA28).load (i := j) (cs := _) (txC_get hi56)
       refine o1 K (Qu (j := j) Ja (congrArg some q56) rfl (by rw [Qw]; omega)) rfl fun _ K => o1 K (Qh rfl (lo56 _ 0 _ Qr rfl)) rfl fun _ K => ?_
       obtain ⟨nb58, hno58⟩ := hA2.nilOr
       obtain ⟨v58, st58, ev58, ks58, rfl, hor58, q58⟩ := txAdd_ev M.fresh (bl := nl2) (Mem.accR (L := ((c21, 0, [.str ow, .str sw, .int .i64 zw, .int .i64 aw, kkw]) :: (c19, 0, [.str nm]) :: (c5, 0, [.str ow, .str sw, .int .i64 zw, .int .i64 aw, kkw]) :: (c3, 0, [.str o, .str s, .int .i64 z, .int .i64 a, kk]) :: (A26 ++ (A28 ++ [])))) (A := A2) (B := []) (Mem.cast (M := ((c21, 0, [.str ow, .str sw, .int .i64 zw, .int .i64 aw, kkw]) :: (c19, 0, [.str nm]) :: (c5, 0, [.str ow, .str sw, .int .i64 zw, .int .i64 aw, kkw]) :: (c3, 0, [.str o, .str s, .int .i64 z, .int .i64 a, kk]) :: (A26 ++ (A28 ++ (A2 ++ []))))) (M' := ((c21, 0, [.str ow, .str sw, .int .i64 zw, .int .i64 aw, kkw]) :: (c19, 0, [.str nm]) :: (c5, 0, [.str ow, .str sw, .int .i64 zw, .int .i64 aw, kkw]) :: (c3, 0, [.str o, .str s, .int .i64 z, .int .i64 a, kk]) :: (A26 ++ (A28 ++ []))) ++ (A2 ++ [])) M (by first | (simp only [List.append_assoc, List.cons_append, List.nil_append, List.append_nil, List.set_cons_zero, List.set_cons_succ]; done) | (simp only [List.append_assoc, List.cons_append, List.nil_append, List.append_nil, List.set_cons_zero, List.set_cons_succ]; rfl))) hA2) y56 hno58 (by first | decide | omega)
       refine o1 K (Qn rfl ev58) rfl fun _ K => ?_
       obtain ⟨A58, hA58, M⟩ := Mem.callAdd (L := ((c21, 0, [.str ow, .str sw, .int .i64 zw, .int .i64 aw, kkw]) :: (c19, 0, [.str nm]) :: (c5, 0, [.str ow, .str sw, .int .i64 zw, .int .i64 aw, kkw]) :: (c3, 0, [.str o, .str s, .int .i64 z, .int .i64 a, kk]) :: (A26 ++ (A28 ++ [])))) (A := A2) (B := []) (Mem.cast (M := ((c21, 0, [.str ow, .str sw, .int .i64 zw, .int .i64 aw, kkw]) :: (c19, 0, [.str nm]) :: (c5, 0, [.str ow, .str sw, .int .i64 zw, .int .i64 aw, kkw]) :: (c3, 0, [.str o, .str s, .int .i64 z, .int .i64 a, kk]) :: (A26 ++ (A28 ++ (A2 ++ []))))) (M' := ((c21, 0, [.str ow, .str sw, .int .i64 zw, .int .i64 aw, kkw]) :: (c19, 0, [.str nm]) :: (c5, 0, [.str ow, .str sw, .int .i64 zw, .int .i64 aw, kkw]) :: (c3, 0, [.str o, .str s, .int .i64 z, .int .i64 a, kk]) :: (A26 ++ (A28 ++ []))) ++ (A2 ++ [])) M (by first | (simp only [List.append_assoc, List.cons_append, List.nil_append, List.append_nil, List.set_cons_zero, List.set_cons_succ]; done) | (simp only [List.append_assoc, List.cons_append, List.nil_append, List.append_nil, List.set_cons_zero, List.set_cons_succ]; rfl))) hA2 q58 hor58
       replace M := Mem.cast (M' := ((c21, 0, [.str ow, .str sw, .int .i64 zw, .int .i64 aw, kkw]) :: (c19, 0, [.str nm]) :: (c5, 0, [.str ow, .str sw, .int .i64 zw, .int .i64 aw, kkw]) :: (c3, 0, [.str o, .str s, .int .i64 z, .int .i64 a, kk]) :: (A26 ++ (A28 ++ (A58 ++ []))))) M (by first | (simp only [List.append_assoc, List.cons_append, List.nil_append, List.append_nil, List.set_cons_zero, List.set_cons_succ]; done) | (simp only [List.append_assoc, List.cons_append, List.nil_append, List.append_nil, List.set_cons_zero, List.set_cons_succ]; rfl))
       refine o1 K (Qb rfl) rfl fun _ K => Qd ?_
       show W _ _ _ _ _ _ _
       refine Qa <| o1 K (Qc rfl) rfl fun _ K => o1 K (Jj rfl rfl (by omega) (by omega)) rfl fun _ K => o1 K (Qb rfl) rfl fun _ K => Qd ?_
       exact ⟨_, (by omega), j + 1, insN y56 nl2, v58, A58, rfl, (.cons (K _ _ rfl) (.cons (K _ _ rfl) (.cons (K _ _ rfl) (.cons (K _ _ rfl) (.cons (K _ _ rfl) (.cons (K _ _ rfl) (.cons (K _ _ rfl) (.cons (K _ _ rfl) (.cons (K _ _ rfl) .nil))))))))), M.less (.refl _), hA58, (by omega), (by rw [hinv2, insAll_step hi56]), (by have hil := insN_len y56 nl2; omega)⟩
     have hb50 := h50
     replace h50 := of_decide_eq_false h50
     refine J6 ?_
     show W _ _ _ _ _ _ _
     refine Qa <| o1 K (Qc rfl) rfl fun _ K => o1 K (Jj rfl rfl (by omega) (by omega)) rfl fun _ K => o1 K (Qb rfl) rfl fun _ K => Qd ?_
     exact ⟨_, (by omega), i + 1, nl2, ks2, A2, rfl, (.cons (K _ _ rfl) (.cons (K _ _ rfl) (.cons (K _ _ rfl) (.cons (K _ _ rfl) (.cons (K _ _ rfl) (.cons (K _ _ rfl) (.cons (K _ _ rfl) (.cons (K _ _ rfl) .nil)))))))), M.less (.refl _), (by assumption), (by omega), (by first | (rw [hinv, wantN_step hi37, if_neg (by simp_all)]; done) | (rw [hinv, wantN_step hi37, if_pos (by simp_all), hinv2, Jf (l := refN (.mk ow sw zw aw lw)) (i := j) (by omega), insAll_nil]; done)), (by first | (have hil := insN_len y37 nl; omega) | omega)⟩
   have hb32 := h32
   replace h32 := of_decide_eq_false h32
   refine J6 ?_
   show W _ _ _ _ _ _ _
   refine Qg <| Qa <| o1 K (Qh rfl (M.load (k := 3) rfl (Ql Qi rfl))) rfl fun _ K => o1 K (Qc rfl) rfl fun _ K => ?_
   refine wr_bs K M Q5 J9 rfl rfl rfl rfl rfl fun c61 _ _ K M => ?_
   refine o1 K (Qh rfl (M.load (k := 3) rfl (Ql Qi rfl))) rfl fun _ K => ?_
   refine wr_bs K M Ug Jl rfl rfl (Qf rfl (Qf rfl (Qf rfl (Qf rfl (Qf hKw.cell Jc))))) rfl rfl fun c63 _ _ K M => ?_
   replace M : Mem st.h.get st.n [] _ ((c63, 0, [.str ow, .str sw, .int .i64 zw, .int .i64 aw, kkw]) :: (c61, 0, [.str nm]) :: (c21, 0, [.str ow, .str sw, .int .i64 zw, .int .i64 aw, kkw]) :: (c19, 0, [.str nm]) :: (c5, 0, [.str ow, .str sw, .int .i64 zw, .int .i64 aw, kkw]) :: (c3, 0, [.str o, .str s, .int .i64 z, .int .i64 a, kk]) :: (A26 ++ (A28 ++ (A ++ [])))) := M
   obtain ⟨v64, st64, ev64, ⟨on64, sn64, zn64, an64, ln64, kkn64, A64, en64, rfl, hS64, hN64⟩, q64⟩ := fPut_ev M.fresh (M.inHB hR (B := [(c63, 0, [.str ow, .str sw, .int .i64 zw, .int .i64 aw, kkw])]) (by intro x hx; simp at hx; subst hx; simp)) (own_tx (M.row1 (k := 1) rfl)) (own_kid hrw0) (hr0.mono fun _ _ _ h => .inl h) (putS_of (C := 99) (by omega) (fun t ht => by rw [List.mem_singleton] at ht; subst ht; exact ⟨hwt.1, term_num hwt.2⟩)) (okN_okB _ hok)
   refine o1 K (Qn rfl ev64) rfl fun _ K => ?_
   replace M := M.callSeg q64 hS64
   replace M := Mem.cast (M' := ((c63, 0, [.str ow, .str sw, .int .i64 zw, .int .i64 aw, kkw]) :: (c61, 0, [.str nm]) :: (c21, 0, [.str ow, .str sw, .int .i64 zw, .int .i64 aw, kkw]) :: (c19, 0, [.str nm]) :: (c5, 0, [.str ow, .str sw, .int .i64 zw, .int .i64 aw, kkw]) :: (c3, 0, [.str o, .str s, .int .i64 z, .int .i64 a, kk]) :: (A26 ++ (A28 ++ (A ++ (A64 ++ [])))))) M (by first | (simp only [List.append_assoc, List.cons_append, List.nil_append, List.append_nil, List.set_cons_zero, List.set_cons_succ]; done) | (simp only [List.append_assoc, List.cons_append, List.nil_append, List.append_nil, List.set_cons_zero, List.set_cons_succ]; rfl))
   have hpz : szN (putN cntN (.mk o s z a l) [nm] [(.mk ow sw zw aw lw)]) ≤ szN (.mk o s z a l) * 20 := put_size cntN (by decide) _ _ _ (fun t ht => by rw [List.mem_singleton] at ht; subst ht; exact hwt.1)
   have hrp := (hN64.toN (fun c m l h => by rcases h with (h | h) | h; exact (M.inH hR) c m l h; (simp at h; obtain ⟨rfl, rfl, rfl⟩ := h; exact Row1.rowV (M.row1 (k := 0) rfl)); exact Row1.rowV (M.row _ _ _ (by simp [h]))))
   have hby := RdN.byA hrp
   rw [en64] at hrp hpz
   obtain ⟨v65, st65, ev65, ⟨ks65, rfl, hR65⟩, q65⟩ := tNames_ev M.fresh hrp (by omega)
   refine o1 K (Qn rfl ev65) rfl fun _ K => ?_
   rw [← en64] at hR65
   replace M := M.quiet q65
   refine o1 K (Qb rfl) rfl fun _ K => Qd ?_
   show W _ _ _ _ _ _ _
   refine Qg <| Qa <| o1 K (Qc rfl) rfl fun _ K => o1 K (Qc rfl) rfl fun _ K => ?_
   have hov : ow = [118, 97, 114] := by simp_all
   have hz68 : decide (freeN (putN cntN (.mk o s z a l) [nm] [(.mk ow sw zw aw lw)]) = nl) = true := by
     refine decide_eq_true ?_
     rw [leaves_eq cntN hok (RdN.byA (hr0.toN (M.inH hR))) (show VarT (.mk ow sw zw aw lw) from ⟨hov, hbw.2⟩) hwt.2 (RdN.byA (hrw0.toN (M.inH hR))) hby, hinv, Jf (by omega)]; rfl
   obtain ⟨v68, st68, ev68, rj68, q68⟩ := sameTx_ev M.fresh hR65 (Mem.accR (L := ((c63, 0, [.str ow, .str sw, .int .i64 zw, .int .i64 aw, kkw]) :: (c61, 0, [.str nm]) :: (c21, 0, [.str ow, .str sw, .int .i64 zw, .int .i64 aw, kkw]) :: (c19, 0, [.str nm]) :: (c5, 0, [.str ow, .str sw, .int .i64 zw, .int .i64 aw, kkw]) :: (c3, 0, [.str o, .str s, .int .i64 z, .int .i64 a, kk]) :: (A26 ++ (A28 ++ [])))) (A := A) (B := (A64 ++ [])) (Mem.cast (M := ((c63, 0, [.str ow, .str sw, .int .i64 zw, .int .i64 aw, kkw]) :: (c61, 0, [.str nm]) :: (c21, 0, [.str ow, .str sw, .int .i64 zw, .int .i64 aw, kkw]) :: (c19, 0, [.str nm]) :: (c5, 0, [.str ow, .str sw, .int .i64 zw, .int .i64 aw, kkw]) :: (c3, 0, [.str o, .str s, .int .i64 z, .int .i64 a, kk]) :: (A26 ++ (A28 ++ (A ++ (A64 ++ [])))))) (M' := ((c63, 0, [.str ow, .str sw, .int .i64 zw, .int .i64 aw, kkw]) :: (c61, 0, [.str nm]) :: (c21, 0, [.str ow, .str sw, .int .i64 zw, .int .i64 aw, kkw]) :: (c19, 0, [.str nm]) :: (c5, 0, [.str ow, .str sw, .int .i64 zw, .int .i64 aw, kkw]) :: (c3, 0, [.str o, .str s, .int .i64 z, .int .i64 a, kk]) :: (A26 ++ (A28 ++ []))) ++ (A ++ (A64 ++ []))) M (by first | (simp only [List.append_assoc, List.cons_append, List.nil_append, List.append_nil, List.set_cons_zero, List.set_cons_succ]; done) | (simp only [List.append_assoc, List.cons_append, List.nil_append, List.append_nil, List.set_cons_zero, List.set_cons_succ]; rfl))) hA)
   refine o1 K (Qn rfl ev68) rfl fun _ K => ?_
   rw [hz68] at rj68
   subst rj68
   replace M := M.quiet q68
   refine o1 K (Qc rfl) rfl fun _ K => ?_
   have ev70 := known7_ev
   refine og K rfl rfl (Qn rfl (ev70 _)) rfl fun _ K => o1 K (Qj rfl rfl rfl) rfl fun _ K => o1 K (Qb rfl) rfl fun _ K => Qd ?_
   show W _ _ _ _ _ _ _
   refine Qv ?_
   refine ⟨.inr rfl, _, (Qm (Qp K rfl)), ?_⟩
   first
    | rfl
    | (simp_all; done)
    | (exfalso; simp_all; done)
 replace e16 : ¬ (ow = [118, 97, 114]) := by simpa using e16
 refine gn K rfl rfl rfl rfl fun _ K => gn K rfl rfl rfl rfl fun _ K => gn K rfl rfl rfl rfl fun _ K => gn K rfl rfl rfl rfl fun _ K => gn K rfl rfl rfl rfl fun _ K => gn K rfl rfl rfl rfl fun _ K => gn K rfl rfl rfl rfl fun _ K => o1 K (Qj rfl rfl rfl) rfl fun _ K => Qd ?_
 show W _ _ _ _ _ _ _
 refine Qq (t := true) (K.opd rfl) (fun _ => ?_) (fun h => by cases h)
 refine Qg <| Qa <| o1 K (Qb rfl) rfl fun _ K => Qd ?_
 show W _ _ _ _ _ _ _
 refine Qv ?_
 refine ⟨.inr rfl, _, (Qm (Qp K rfl)), ?_⟩
 first
  | rfl
  | (simp_all; done)
  | (exfalso; simp_all; done)
end Go.Proofs.YtmjnbdkjekdkgaaDoor
end

section
namespace Go.Proofs.YtmjnbdkjekdkgaaDoor
open Go Go.RowKit
set_option linter.unusedVariables false

theorem walk_freeLeaves {H : Type} {enc : TypeId × Value → H} {W : World} {v0 v1 : Value} {d0 d1 : DataW H} {p0 p1 : List MemPlace} (h0 : DataW.Trod enc Tryd.prog W 0 (fun _ => true) true 24 v0 d0 p0) (a1 : ByteArray) (h1 : DataW.Trod enc Tryd.prog W 0 (fun _ => true) true 24 v1 d1 p1) (hz : a1.size ≤ 140737488351232) (hT : Tabs W) :
  Calls Tryd.prog 6 #[v0, .string a1, v1] W fun e w' => e = .returned (.bool true) ∧ Below W.heap.size W w' := by
 obtain ⟨ml1, cs, k, _, hM1, hk, hw, hc⟩ := hand_node GoodM.nil h0
 obtain ⟨ml2, ct, k', hp, hM2, hk', hw', hc'⟩ := hand_node hM1 h1
 obtain ⟨hk, hw, e⟩ := hand_more hp hk hw
 rw [hc] at e
 obtain ⟨o, s, z, a, l⟩ := k
 obtain ⟨ow, sw, zw, aw, lw⟩ := k'
 have := open_true (G := envD) (fun _ => rfl) envD_ok mixed (f := 6) (args := [.agg cs, .str (textOf a1), .agg ct]) hM2 ⟨hw, bytes_textOf a1, hw', trivial⟩
  (freeLeaves_ev (stM_fresh ml2) (by rw [stM_get]; exact hk) (textOf a1) (bytes_textOf a1) (by rw [stM_get]; exact hk')) hT
 rw [show concL (plM ml2) [.agg cs, .str (textOf a1), .agg ct] = [v0, .string a1, v1] by
  rw [← e, ← hc']; show [_, Value.string (bytesOf (textOf a1)), _] = _; rw [bytesOf_textOf]] at this
 exact this
end Go.Proofs.YtmjnbdkjekdkgaaDoor
end
