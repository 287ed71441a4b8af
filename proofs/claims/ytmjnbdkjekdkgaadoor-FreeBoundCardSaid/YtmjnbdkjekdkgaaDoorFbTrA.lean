/-
  How great a node is, how deep: the program's answer, the reference's.
-/
import Derived.Test.YtmjnbdkjekdkgaaDoorFbTree
namespace Go.Proofs.YtmjnbdkjekdkgaaDoor
open Go Go.RowKit
set_option linter.unusedVariables false
set_option linter.unusedSimpArgs false
set_option maxRecDepth 100000

theorem count2_ev (x : Nd) : ∀ (most : Int) (st : St) (cs : List AV), Fresh st → RdN st.h.get x cs → 1 ≤ most → most ≤ 1000000 → ∃ v st', Ev Tryd.prog envD 39 [.agg cs, .int .i64 most] st v st' ∧ v = .int .i64 (min ((szN x : Nat) : Int) most) ∧ Qt st st' := by
 refine nd_rec (M := fun x => ∀ (most : Int) (st : St) (cs : List AV), Fresh st → RdN st.h.get x cs → 1 ≤ most → most ≤ 1000000 → ∃ v st', Ev Tryd.prog envD 39 [.agg cs, .int .i64 most] st v st' ∧ v = .int .i64 (min ((szN x : Nat) : Int) most) ∧ Qt st st') (fun o s z a l ih => ?_) x
 intro most st cs hf hr h1 h2
 have hr0 := hr
 obtain ⟨kk, ls, rfl, hK, hb⟩ := hr.open5
 have hln := hK.ln
 have hbn := hK.bnd
 refine J5 rfl Tryd.func39 rfl Tryd.ntmps39 rfl (by decide) (by simp) fun T hT => ?_
 have K : KnT [(0, _), (1, _)] T := (.cons (hT 0) (.cons (hT 1) .nil))
 have M := Mem.start hf
 refine Qh <| Qa ?_
 refine Ub K M rfl (Qf rfl (Qf rfl (Qf rfl (Qf rfl (Qf hK.cell Q7))))) (by decide) fun c2 _ _ K M => ?_
 refine o1 K (Qb rfl) rfl fun _ K => Qd ?_
 show W _ _ _ _ _ _ _
 refine Qh <| Qa <| o1 K (Qb rfl) rfl fun _ K => Qd ?_
 show W _ _ _ _ _ _ _
 refine Qh <| Qh <| Qa <| o1 K (Qb rfl) rfl fun _ K => Qd ?_
 show W _ _ _ _ _ _ _
 refine Q5 ?_
 refine w_loop (fun mm1 T st9 => ∃ (i : Nat) (m : Int), mm1 = l.length - i ∧ KnT [(1, .int .i64 most), (2, .ptr c2 0 0), (4, .int .i64 0), (5, .int .i64 m), (6, .int .i64 (((i : Nat) : Int)))] T ∧ Mem st.h.get st.n [] st9 [(c2, 0, [.str o, .str s, .int .i64 z, .int .i64 a, kk])] ∧ i ≤ l.length ∧ 1 ≤ m ∧ m ≤ most ∧ min (((szN (.mk o s z a l)) : Nat) : Int) most = min (m + ((szL (l.drop i) : Nat) : Int)) most) (fun mm1 T st9 hI => ?_) _ _ _ ⟨0, 1, rfl, (.cons (K _ _ rfl) (.cons (K _ _ rfl) (.cons (K _ _ rfl) (.cons (K _ _ rfl) (.cons (K _ _ rfl) .nil))))), M.less (.refl _), (Nat.zero_le _), (by omega), h1, (by rw [szN, List.drop_zero]; omega)⟩
 obtain ⟨i, m, rfl, K, M, hi, hm1, hm2, hinv⟩ := hI
 refine Qh <| Qh <| Qa <| o1 K (Qc rfl) rfl fun _ K => o1 K (Qe Qw rfl) rfl fun _ K => o1 K (Qg rfl (M.load (k := 0) rfl (Qk Qu rfl))) rfl fun _ K => o1 K (Jn Q9 rfl rfl hK.len) rfl fun _ K => o1 K (os_lss rfl rfl) rfl fun _ K => ?_
 refine oB K (Qc rfl) rfl fun b12 _ e12 K => ?_
 cases b12
 · replace e12 := of_decide_eq_false e12
   refine gn K rfl rfl rfl rfl fun _ K => gn K rfl rfl rfl rfl fun _ K => gn K rfl rfl rfl rfl fun _ K => o1 K (Qj rfl rfl rfl) rfl fun _ K => Qd ?_
   show W _ _ _ _ _ _ _
   refine Qr (t := false) (K.opd rfl) (fun h => by cases h) (fun _ => ?_)
   refine Uk ?_
   show W _ _ _ _ _ _ _
   refine Qh <| Qa <| o1 K (Qc rfl) rfl fun _ K => o1 K (Qc rfl) rfl fun _ K => o1 K (os_min rfl rfl) rfl fun _ K => o1 K (Qb rfl) rfl fun _ K => Qd ?_
   show W _ _ _ _ _ _ _
   refine Qs ?_
   refine ⟨.inr rfl, _, (Qm (Qp K rfl)), ?_⟩
   first
    | (refine ⟨?_, M.qt⟩; rw [hinv]; congr 1; have hz : i = l.length := by omega
       rw [Jl (by omega), szL]; omega)
    | (refine ⟨?_, M.qt⟩; rw [hinv]; congr 1; omega)
 · replace e12 := of_decide_eq_true e12
   refine og K rfl rfl (Qc rfl) rfl fun _ K => og K rfl rfl (Qc rfl) rfl fun _ K => og K rfl rfl (os_lss rfl rfl) rfl fun _ K => o1 K (Qj rfl rfl rfl) rfl fun _ K => Qd ?_
   show W _ _ _ _ _ _ _
   refine Qr (K.opd rfl) (fun h16 => ?_) (fun h16 => ?_)
   · have hb16 := h16
     replace h16 := of_decide_eq_true h16
     refine Q3 ?_
     show W _ _ _ _ _ _ _
     refine Qh <| Q5 <| Qa <| o1 K (Qc rfl) rfl fun _ K => o1 K (Qe Qw rfl) rfl fun _ K => o1 K (Qg rfl (M.load (k := 0) rfl (Qk Qu rfl))) rfl fun _ K => o1 K (Qc rfl) rfl fun _ K => ?_
     obtain ⟨⟨o23, s23, z23, a23, l23⟩, hi23⟩ : ∃ k, l[i]? = some k := ⟨_, List.getElem?_eq_getElem (by omega)⟩
     have hm23 := kids_mem hi23
     obtain ⟨_, hc23, hn23⟩ := hK.at_ _ _ hi23
     have hp23 := hn23
     obtain ⟨kk23, ls23, rfl, hK23, hb23⟩ := hp23.open5
     obtain ⟨x23, m23, f23, q23, _, la23, lo23, lp23⟩ := (hK.r.mem M (by simp)).load (i := i) (cs := _) hc23
     refine o1 K (Q0 (j := i) Jf (congrArg some q23) rfl (by rw [hK.ln]; omega)) rfl fun _ K => o1 K (Qg rfl (la23 _ Qi)) rfl fun _ K => o1 K (Qc rfl) rfl fun _ K => o1 K (Qc rfl) rfl fun _ K => o1 K (os_sub rfl rfl (by omega) (by omega)) rfl fun _ K => ?_
     obtain ⟨v28, st28, ev28, rfl, q28⟩ := ih _ (hm23) (most - m) _ _ M.fresh (hn23.mono M.rows) (by omega) (by omega)
     refine o1 K (Qn rfl ev28) rfl fun _ K => ?_
     replace M := M.quiet q28
     refine o1 K (Jm rfl rfl (by omega) (by omega)) rfl fun _ K => o1 K (Qb rfl) rfl fun _ K => Qd ?_
     show W _ _ _ _ _ _ _
     refine Qa <| o1 K (Qc rfl) rfl fun _ K => o1 K (Jm rfl rfl (by omega) (by omega)) rfl fun _ K => o1 K (Qb rfl) rfl fun _ K => Qd ?_
     have hst := szL_step hi23
     have hsp := szN_pos (.mk o23 s23 z23 a23 l23)
     exact ⟨_, (by omega), i + 1, (m + min ((szN (.mk o23 s23 z23 a23 l23) : Nat) : Int) (most - m)), rfl, (.cons (K _ _ rfl) (.cons (K _ _ rfl) (.cons (K _ _ rfl) (.cons (K _ _ rfl) (.cons (K _ _ rfl) .nil))))), M.less (.refl _), (by omega), (by omega), (by omega), (by omega)⟩
   · have hb16 := h16
     replace h16 := of_decide_eq_false h16
     refine Uk ?_
     show W _ _ _ _ _ _ _
     refine Qh <| Qa <| o1 K (Qc rfl) rfl fun _ K => o1 K (Qc rfl) rfl fun _ K => o1 K (os_min rfl rfl) rfl fun _ K => o1 K (Qb rfl) rfl fun _ K => Qd ?_
     show W _ _ _ _ _ _ _
     refine Qs ?_
     refine ⟨.inr rfl, _, (Qm (Qp K rfl)), ?_⟩
     first
      | (refine ⟨?_, M.qt⟩; rw [hinv]; congr 1; have hz : i = l.length := by omega
         rw [Jl (by omega), szL]; omega)
      | (refine ⟨?_, M.qt⟩; rw [hinv]; congr 1; omega)

theorem deep2_ev (x : Nd) : ∀ (most : Int) (st : St) (cs : List AV), Fresh st → RdN st.h.get x cs → 1 ≤ most → most ≤ 1000000 → ∃ v st', Ev Tryd.prog envD 41 [.agg cs, .int .i64 most] st v st' ∧ v = .int .i64 (min ((dpN x : Nat) : Int) most) ∧ Qt st st' := by
 refine nd_rec (M := fun x => ∀ (most : Int) (st : St) (cs : List AV), Fresh st → RdN st.h.get x cs → 1 ≤ most → most ≤ 1000000 → ∃ v st', Ev Tryd.prog envD 41 [.agg cs, .int .i64 most] st v st' ∧ v = .int .i64 (min ((dpN x : Nat) : Int) most) ∧ Qt st st') (fun o s z a l ih => ?_) x
 intro most st cs hf hr h1 h2
 have hr0 := hr
 obtain ⟨kk, ls, rfl, hK, hb⟩ := hr.open5
 have hln := hK.ln
 have hbn := hK.bnd
 refine J5 rfl Tryd.func41 rfl Tryd.ntmps41 rfl (by decide) (by simp) fun T hT => ?_
 have K : KnT [(0, _), (1, _)] T := (.cons (hT 0) (.cons (hT 1) .nil))
 have M := Mem.start hf
 refine Qh <| Qa ?_
 refine Ub K M rfl (Qf rfl (Qf rfl (Qf rfl (Qf rfl (Qf hK.cell Q7))))) (by decide) fun c2 _ _ K M => ?_
 refine o1 K (Qb rfl) rfl fun _ K => Qd ?_
 show W _ _ _ _ _ _ _
 refine Qh <| Qh <| Qa <| o1 K (Qc rfl) rfl fun _ K => o1 K (os_leq rfl rfl) rfl fun _ K => Qd ?_
 show W _ _ _ _ _ _ _
 refine Qr (K.opd rfl) (fun h8 => ?_) (fun h8 => ?_)
 ·have hb8 := h8
  replace h8 := of_decide_eq_true h8
  refine Qh <| Qa <| o1 K (Qc rfl) rfl fun _ K => o1 K (os_min rfl rfl) rfl fun _ K => o1 K (Qb rfl) rfl fun _ K => Qd ?_
  show W _ _ _ _ _ _ _
  refine Qs ?_
  refine ⟨.inr rfl, _, (Qm (Qp K rfl)), ?_⟩
  refine ⟨congrArg (AV.int .i64) ?_, M.qt⟩
  first
   | (rw [dpN, Jl (show l.length ≤ i by omega), dpL] at *; omega)
   | (rw [dpN]; omega)
 ·have hb8 := h8
  replace h8 := of_decide_eq_false h8
  refine Q3 ?_
  show W _ _ _ _ _ _ _
  refine Qh <| Qa <| o1 K (Qb rfl) rfl fun _ K => Qd ?_
  show W _ _ _ _ _ _ _
  refine Qh <| Qh <| Qa <| o1 K (Qb rfl) rfl fun _ K => Qd ?_
  show W _ _ _ _ _ _ _
  refine Q5 ?_
  refine w_loop (fun mm1 T st9 => ∃ (i : Nat) (m : Int), mm1 = l.length - i ∧ KnT [(1, .int .i64 most), (2, .ptr c2 0 0), (4, .int .i64 0), (5, .int .i64 m), (6, .int .i64 (((i : Nat) : Int)))] T ∧ Mem st.h.get st.n [] st9 [(c2, 0, [.str o, .str s, .int .i64 z, .int .i64 a, kk])] ∧ i ≤ l.length ∧ 0 ≤ m ∧ m ≤ most - 1 ∧ min (((dpL l) : Nat) : Int) (most - 1) = max m (min ((dpL (l.drop i) : Nat) : Int) (most - 1))) (fun mm1 T st9 hI => ?_) _ _ _ ⟨0, 0, rfl, (.cons (K _ _ rfl) (.cons (K _ _ rfl) (.cons (K _ _ rfl) (.cons (K _ _ rfl) (.cons (K _ _ rfl) .nil))))), M.less (.refl _), (Nat.zero_le _), (by omega), (by omega), (by rw [List.drop_zero]; omega)⟩
  obtain ⟨i, m, rfl, K, M, hi, hm1, hm2, hinv⟩ := hI
  refine Qh <| Qh <| Qa <| o1 K (Qc rfl) rfl fun _ K => o1 K (Qe Qw rfl) rfl fun _ K => o1 K (Qg rfl (M.load (k := 0) rfl (Qk Qu rfl))) rfl fun _ K => o1 K (Jn Q9 rfl rfl hK.len) rfl fun _ K => o1 K (os_lss rfl rfl) rfl fun _ K => Qd ?_
  show W _ _ _ _ _ _ _
  refine Qr (K.opd rfl) (fun h15 => ?_) (fun h15 => ?_)
  · have hb15 := h15
    replace h15 := of_decide_eq_true h15
    refine Q3 ?_
    show W _ _ _ _ _ _ _
    refine Qh <| Q5 <| Qa <| o1 K (Qc rfl) rfl fun _ K => o1 K (Qe Qw rfl) rfl fun _ K => o1 K (Qg rfl (M.load (k := 0) rfl (Qk Qu rfl))) rfl fun _ K => o1 K (Qc rfl) rfl fun _ K => ?_
    obtain ⟨⟨o22, s22, z22, a22, l22⟩, hi22⟩ : ∃ k, l[i]? = some k := ⟨_, List.getElem?_eq_getElem (by omega)⟩
    have hm22 := kids_mem hi22
    obtain ⟨_, hc22, hn22⟩ := hK.at_ _ _ hi22
    have hp22 := hn22
    obtain ⟨kk22, ls22, rfl, hK22, hb22⟩ := hp22.open5
    obtain ⟨x22, m22, f22, q22, _, la22, lo22, lp22⟩ := (hK.r.mem M (by simp)).load (i := i) (cs := _) hc22
    refine o1 K (Q0 (j := i) Jf (congrArg some q22) rfl (by rw [hK.ln]; omega)) rfl fun _ K => o1 K (Qg rfl (la22 _ Qi)) rfl fun _ K => o1 K (Qc rfl) rfl fun _ K => o1 K (os_sub rfl rfl (by omega) (by omega)) rfl fun _ K => ?_
    obtain ⟨v26, st26, ev26, rfl, q26⟩ := ih _ (hm22) (most - 1) _ _ M.fresh (hn22.mono M.rows) (by omega) (by omega)
    refine o1 K (Qn rfl ev26) rfl fun _ K => ?_
    replace M := M.quiet q26
    refine o1 K (os_max rfl rfl) rfl fun _ K => o1 K (Qb rfl) rfl fun _ K => Qd ?_
    show W _ _ _ _ _ _ _
    refine Qa <| o1 K (Qc rfl) rfl fun _ K => o1 K (Jm rfl rfl (by omega) (by omega)) rfl fun _ K => o1 K (Qb rfl) rfl fun _ K => Qd ?_
    have hst := dpL_step hi22
    have hsp := dpN_pos (.mk o22 s22 z22 a22 l22)
    exact ⟨_, (by omega), i + 1, (max m (min ((dpN (.mk o22 s22 z22 a22 l22) : Nat) : Int) (most - 1))), rfl, (.cons (K _ _ rfl) (.cons (K _ _ rfl) (.cons (K _ _ rfl) (.cons (K _ _ rfl) (.cons (K _ _ rfl) .nil))))), M.less (.refl _), (by omega), (by omega), (by omega), (by omega)⟩
  · have hb15 := h15
    replace h15 := of_decide_eq_false h15
    refine Uk ?_
    show W _ _ _ _ _ _ _
    refine Qh <| Qa <| o1 K (Qc rfl) rfl fun _ K => o1 K (Jm rfl rfl (by omega) (by omega)) rfl fun _ K => o1 K (Qb rfl) rfl fun _ K => Qd ?_
    show W _ _ _ _ _ _ _
    refine Qs ?_
    refine ⟨.inr rfl, _, (Qm (Qp K rfl)), ?_⟩
    refine ⟨congrArg (AV.int .i64) ?_, M.qt⟩
    first
     | (rw [dpN, Jl (show l.length ≤ i by omega), dpL] at *; omega)
     | (rw [dpN]; omega)
end Go.Proofs.YtmjnbdkjekdkgaaDoor
