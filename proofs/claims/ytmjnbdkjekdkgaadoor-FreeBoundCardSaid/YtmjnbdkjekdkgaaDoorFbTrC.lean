/-
  Formulas: the program's answer. Terms and formulas: the reference's.
-/
import Derived.Test.YtmjnbdkjekdkgaaDoorFbTrB
namespace Go.Proofs.YtmjnbdkjekdkgaaDoor
open Go Go.RowKit
set_option linter.unusedVariables false
set_option linter.unusedSimpArgs false
set_option maxRecDepth 100000
set_option maxHeartbeats 2000000

theorem lt3 (z : Int) : (z < 3) = (z ≤ 2) := propext (by omega)
theorem any_step {kids : List Nd} {i : Nat} {k : Nd} {p : Nd → Bool} (h : kids[i]? = some k) : (kids.drop i).any p = (p k || (kids.drop (i + 1)).any p) := by
 obtain ⟨h1, h2⟩ := List.getElem?_eq_some_iff.1 h
 rw [List.drop_eq_getElem_cons h1, List.any_cons, h2]
theorem J7 {s : List Nat} {z : Int} {l : List Nd} {m : Int} : hasB s z l m true false = (nameB s && (decide (z = 0) && decide (((l.length : Nat) : Int) = m))) := by
 rw [hasB]; cases decide (((l.length : Nat) : Int) = m) <;> cases decide (z = 0) <;> cases nameB s <;> rfl
theorem J8 {s : List Nat} {z : Int} {l : List Nd} {m : Int} : hasB s z l m false true = (decide (s = []) && decide (((l.length : Nat) : Int) = m)) := by
 rw [hasB]; cases decide (((l.length : Nat) : Int) = m) <;> cases decide (s = []) <;> rfl
theorem J9 {s : List Nat} {z : Int} {l : List Nd} {m : Int} : hasB s z l m false false = bareB s z l m := by
 rw [hasB, bareB]; cases decide (((l.length : Nat) : Int) = m) <;> cases decide (z = 0) <;> cases decide (s = []) <;> rfl
theorem J6 {s : List Nat} {z : Int} {l : List Nd} {m : Int} : hasB s z l m true true = (nameB s && decide (((l.length : Nat) : Int) = m)) := by
 rw [hasB]; cases decide (((l.length : Nat) : Int) = m) <;> cases nameB s <;> rfl
/-- One that no set may hold. -/
def oddB (k : Nd) : Bool := isSetB k.op || decide (k.op = oSet)
theorem part_all : ∀ (l : List Nd), l.all partB = (!l.any oddB && l.all termN) := by
 intro l
 induction l with
 | nil => rfl
 | cons k l ih =>
  rw [List.all_cons, List.all_cons, List.any_cons, ih, partB, oddB]
  cases termN k <;> cases isSetB k.op <;> cases decide (k.op = oSet) <;> cases l.any oddB <;> cases l.all termN <;> rfl

theorem rTerms_ev {o s : List Nat} {z a : Int} {l : List Nd} {st : St} {cs : List AV} (hf : Fresh st) (hr : RdN st.h.get (.mk o s z a l) cs) (hC : ∀ (k : Nd), k ∈ l → ∀ (st1 : St) (cs : List AV), Fresh st1 → RdN st1.h.get k cs → ∃ v st', Ev Tryd.prog envD 37 [.agg cs] st1 v st' ∧ v = .bool (termN k) ∧ Qt st1 st') : ∃ v st', Ev Tryd.prog envD 58 [.agg cs] st v st' ∧ v = .bool (l.all termN) ∧ Qt st st' := by
 have hr0 := hr
 obtain ⟨kk, ls, rfl, hK, hb⟩ := hr.open5
 have hln := hK.ln
 have hbn := hK.bnd
 refine J5 rfl Tryd.func58 rfl Tryd.ntmps58 rfl (by decide) (by simp) fun T hT => ?_
 have K : KnT [(0, _)] T := (.cons (hT 0) .nil)
 have M := Mem.start hf
 refine Qh <| Qa ?_
 refine Ub K M rfl (Qf rfl (Qf rfl (Qf rfl (Qf rfl (Qf hK.cell Q7))))) (by decide) fun c1 _ _ K M => ?_
 refine o1 K (Qb rfl) rfl fun _ K => Qd ?_
 show W _ _ _ _ _ _ _
 refine Qh <| Qh <| Qa <| o1 K (Qb rfl) rfl fun _ K => Qd ?_
 show W _ _ _ _ _ _ _
 refine Q5 ?_
 refine w_loop (fun mm1 T st9 => ∃ (i : Nat), mm1 = l.length - i ∧ KnT [(1, .ptr c1 0 0), (3, .int .i64 (((i : Nat) : Int)))] T ∧ Mem st.h.get st.n [] st9 [(c1, 0, [.str o, .str s, .int .i64 z, .int .i64 a, kk])] ∧ i ≤ l.length ∧ l.all termN = (l.drop i).all termN) (fun mm1 T st9 hI => ?_) _ _ _ ⟨0, rfl, (.cons (K _ _ rfl) (.cons (K _ _ rfl) .nil)), M.less (.refl _), (Nat.zero_le _), (by rw [List.drop_zero])⟩
 obtain ⟨i, rfl, K, M, hi, hx⟩ := hI
 refine Qh <| Qh <| Qa <| o1 K (Qc rfl) rfl fun _ K => o1 K (Qe Qw rfl) rfl fun _ K => o1 K (Qg rfl (M.load (k := 0) rfl (Qk Qu rfl))) rfl fun _ K => o1 K (Jn Q9 rfl rfl hK.len) rfl fun _ K => o1 K (os_lss rfl rfl) rfl fun _ K => Qd ?_
 show W _ _ _ _ _ _ _
 refine Qr (K.opd rfl) (fun h8 => ?_) (fun h8 => ?_)
 ·have hb8 := h8
  replace h8 := of_decide_eq_true h8
  refine Q3 ?_
  show W _ _ _ _ _ _ _
  refine Qh <| Q5 <| Qh <| Qa <| o1 K (Qe Qw rfl) rfl fun _ K => o1 K (Qg rfl (M.load (k := 0) rfl (Qk Qu rfl))) rfl fun _ K => o1 K (Qc rfl) rfl fun _ K => ?_
  obtain ⟨⟨o14, s14, z14, a14, l14⟩, hi14⟩ : ∃ k, l[i]? = some k := ⟨_, List.getElem?_eq_getElem (by first | omega | (have := bare_len (m := 1) (l := l) (by assumption); omega) | (have := bare_len (m := 2) (l := l) (by assumption); omega) | (have := Q8 (m := 1) (l := l) (by assumption); omega))⟩
  have hm14 := kids_mem hi14
  obtain ⟨_, hc14, hn14⟩ := hK.at_ _ _ hi14
  have hp14 := hn14
  obtain ⟨kk14, ls14, rfl, hK14, hb14⟩ := hp14.open5
  obtain ⟨x14, m14, f14, q14, _, la14, lo14, lp14⟩ := (hK.r.mem M (by simp)).load (i := i) (cs := _) hc14
  refine o1 K (Q0 (j := i) Jf (congrArg some q14) rfl (by rw [hK.ln]; first | omega | (have := bare_len (m := 1) (l := l) (by assumption); omega) | (have := bare_len (m := 2) (l := l) (by assumption); omega) | (have := Q8 (m := 1) (l := l) (by assumption); omega))) rfl fun _ K => o1 K (Qg rfl (la14 _ Qi)) rfl fun _ K => ?_
  obtain ⟨v16, st16, ev16, rfl, q16⟩ := hC _ hm14 _ _ M.fresh (hn14.mono M.rows)
  refine o1 K (Qn rfl ev16) rfl fun _ K => ?_
  replace M := M.quiet q16
  refine o1 K (os_not rfl) rfl fun _ K => Qd ?_
  show W _ _ _ _ _ _ _
  refine Qr (K.opd rfl) (fun h17 => ?_) (fun h17 => ?_)
  ·have hb17 := h17
   replace h17 : (termN (.mk o14 s14 z14 a14 l14)) = false := by simpa using h17
   refine Qh <| Qa <| o1 K (Qb rfl) rfl fun _ K => Qd ?_
   show W _ _ _ _ _ _ _
   refine Qs ?_
   refine ⟨.inr rfl, _, (Qm (Qp K rfl)), ?_⟩
   exact ⟨by rw [hx, all_step hi14]; simp [h17], M.qt⟩
  have hb17 := h17
  replace h17 : (termN (.mk o14 s14 z14 a14 l14)) = true := by simpa using h17
  refine Q3 ?_
  show W _ _ _ _ _ _ _
  refine Qa <| o1 K (Qc rfl) rfl fun _ K => o1 K (Jm rfl rfl (by omega) (by omega)) rfl fun _ K => o1 K (Qb rfl) rfl fun _ K => Qd ?_
  exact ⟨_, (by omega), i + 1, rfl, (.cons (K _ _ rfl) (.cons (K _ _ rfl) .nil)), M.less (.refl _), (by omega), (by rw [hx, all_step hi14]; simp [h17])⟩
 have hb8 := h8
 replace h8 := of_decide_eq_false h8
 refine Uk ?_
 show W _ _ _ _ _ _ _
 refine Qh <| Qa <| o1 K (Qb rfl) rfl fun _ K => Qd ?_
 show W _ _ _ _ _ _ _
 refine Qs ?_
 refine ⟨.inr rfl, _, (Qm (Qp K rfl)), ?_⟩
 exact ⟨by rw [hx, Jl (by omega)]; rfl, M.qt⟩

theorem rForms_ev {o s : List Nat} {z a : Int} {l : List Nd} {st : St} {cs : List AV} (hf : Fresh st) (hr : RdN st.h.get (.mk o s z a l) cs) (hC : ∀ (k : Nd), k ∈ l → ∀ (st1 : St) (cs : List AV), Fresh st1 → RdN st1.h.get k cs → ∃ v st', Ev Tryd.prog envD 35 [.agg cs] st1 v st' ∧ v = .bool (formN k) ∧ Qt st1 st') : ∃ v st', Ev Tryd.prog envD 57 [.agg cs] st v st' ∧ v = .bool (l.all formN) ∧ Qt st st' := by
 have hr0 := hr
 obtain ⟨kk, ls, rfl, hK, hb⟩ := hr.open5
 have hln := hK.ln
 have hbn := hK.bnd
 refine J5 rfl Tryd.func57 rfl Tryd.ntmps57 rfl (by decide) (by simp) fun T hT => ?_
 have K : KnT [(0, _)] T := (.cons (hT 0) .nil)
 have M := Mem.start hf
 refine Qh <| Qa ?_
 refine Ub K M rfl (Qf rfl (Qf rfl (Qf rfl (Qf rfl (Qf hK.cell Q7))))) (by decide) fun c1 _ _ K M => ?_
 refine o1 K (Qb rfl) rfl fun _ K => Qd ?_
 show W _ _ _ _ _ _ _
 refine Qh <| Qh <| Qa <| o1 K (Qb rfl) rfl fun _ K => Qd ?_
 show W _ _ _ _ _ _ _
 refine Q5 ?_
 refine w_loop (fun mm1 T st9 => ∃ (i : Nat), mm1 = l.length - i ∧ KnT [(1, .ptr c1 0 0), (3, .int .i64 (((i : Nat) : Int)))] T ∧ Mem st.h.get st.n [] st9 [(c1, 0, [.str o, .str s, .int .i64 z, .int .i64 a, kk])] ∧ i ≤ l.length ∧ l.all formN = (l.drop i).all formN) (fun mm1 T st9 hI => ?_) _ _ _ ⟨0, rfl, (.cons (K _ _ rfl) (.cons (K _ _ rfl) .nil)), M.less (.refl _), (Nat.zero_le _), (by rw [List.drop_zero])⟩
 obtain ⟨i, rfl, K, M, hi, hx⟩ := hI
 refine Qh <| Qh <| Qa <| o1 K (Qc rfl) rfl fun _ K => o1 K (Qe Qw rfl) rfl fun _ K => o1 K (Qg rfl (M.load (k := 0) rfl (Qk Qu rfl))) rfl fun _ K => o1 K (Jn Q9 rfl rfl hK.len) rfl fun _ K => o1 K (os_lss rfl rfl) rfl fun _ K => Qd ?_
 show W _ _ _ _ _ _ _
 refine Qr (K.opd rfl) (fun h8 => ?_) (fun h8 => ?_)
 ·have hb8 := h8
  replace h8 := of_decide_eq_true h8
  refine Q3 ?_
  show W _ _ _ _ _ _ _
  refine Qh <| Q5 <| Qh <| Qa <| o1 K (Qe Qw rfl) rfl fun _ K => o1 K (Qg rfl (M.load (k := 0) rfl (Qk Qu rfl))) rfl fun _ K => o1 K (Qc rfl) rfl fun _ K => ?_
  obtain ⟨⟨o14, s14, z14, a14, l14⟩, hi14⟩ : ∃ k, l[i]? = some k := ⟨_, List.getElem?_eq_getElem (by first | omega | (have := bare_len (m := 1) (l := l) (by assumption); omega) | (have := bare_len (m := 2) (l := l) (by assumption); omega) | (have := Q8 (m := 1) (l := l) (by assumption); omega))⟩
  have hm14 := kids_mem hi14
  obtain ⟨_, hc14, hn14⟩ := hK.at_ _ _ hi14
  have hp14 := hn14
  obtain ⟨kk14, ls14, rfl, hK14, hb14⟩ := hp14.open5
  obtain ⟨x14, m14, f14, q14, _, la14, lo14, lp14⟩ := (hK.r.mem M (by simp)).load (i := i) (cs := _) hc14
  refine o1 K (Q0 (j := i) Jf (congrArg some q14) rfl (by rw [hK.ln]; first | omega | (have := bare_len (m := 1) (l := l) (by assumption); omega) | (have := bare_len (m := 2) (l := l) (by assumption); omega) | (have := Q8 (m := 1) (l := l) (by assumption); omega))) rfl fun _ K => o1 K (Qg rfl (la14 _ Qi)) rfl fun _ K => ?_
  obtain ⟨v16, st16, ev16, rfl, q16⟩ := hC _ hm14 _ _ M.fresh (hn14.mono M.rows)
  refine o1 K (Qn rfl ev16) rfl fun _ K => ?_
  replace M := M.quiet q16
  refine o1 K (os_not rfl) rfl fun _ K => Qd ?_
  show W _ _ _ _ _ _ _
  refine Qr (K.opd rfl) (fun h17 => ?_) (fun h17 => ?_)
  ·have hb17 := h17
   replace h17 : (formN (.mk o14 s14 z14 a14 l14)) = false := by simpa using h17
   refine Qh <| Qa <| o1 K (Qb rfl) rfl fun _ K => Qd ?_
   show W _ _ _ _ _ _ _
   refine Qs ?_
   refine ⟨.inr rfl, _, (Qm (Qp K rfl)), ?_⟩
   exact ⟨by rw [hx, all_step hi14]; simp [h17], M.qt⟩
  have hb17 := h17
  replace h17 : (formN (.mk o14 s14 z14 a14 l14)) = true := by simpa using h17
  refine Q3 ?_
  show W _ _ _ _ _ _ _
  refine Qa <| o1 K (Qc rfl) rfl fun _ K => o1 K (Jm rfl rfl (by omega) (by omega)) rfl fun _ K => o1 K (Qb rfl) rfl fun _ K => Qd ?_
  exact ⟨_, (by omega), i + 1, rfl, (.cons (K _ _ rfl) (.cons (K _ _ rfl) .nil)), M.less (.refl _), (by omega), (by rw [hx, all_step hi14]; simp [h17])⟩
 have hb8 := h8
 replace h8 := of_decide_eq_false h8
 refine Uk ?_
 show W _ _ _ _ _ _ _
 refine Qh <| Qa <| o1 K (Qb rfl) rfl fun _ K => Qd ?_
 show W _ _ _ _ _ _ _
 refine Qs ?_
 refine ⟨.inr rfl, _, (Qm (Qp K rfl)), ?_⟩
 exact ⟨by rw [hx, Jl (by omega)]; rfl, M.qt⟩

theorem rTerm_ev (x : Nd) : ∀ (st : St) (cs : List AV), Fresh st → RdN st.h.get x cs → ∃ v st', Ev Tryd.prog envD 37 [.agg cs] st v st' ∧ v = .bool (termN x) ∧ Qt st st' := by
 refine nd_rec (M := fun x => ∀ (st : St) (cs : List AV), Fresh st → RdN st.h.get x cs → ∃ v st', Ev Tryd.prog envD 37 [.agg cs] st v st' ∧ v = .bool (termN x) ∧ Qt st st') (fun o s z a l ih => ?_) x
 intro st cs hf hr
 have hr0 := hr
 obtain ⟨kk, ls, rfl, hK, hb⟩ := hr.open5
 have hln := hK.ln
 have hbn := hK.bnd
 refine J5 rfl Tryd.func37 rfl Tryd.ntmps37 rfl (by decide) (by simp) fun T hT => ?_
 have K : KnT [(0, _)] T := (.cons (hT 0) .nil)
 have M := Mem.start hf
 refine Qh <| Qa ?_
 refine Ub K M rfl (Qf rfl (Qf rfl (Qf rfl (Qf rfl (Qf hK.cell Q7))))) (by decide) fun c1 _ _ K M => ?_
 refine o1 K (Qb rfl) rfl fun _ K => Qd ?_
 show W _ _ _ _ _ _ _
 refine Qh <| Qh <| Qa <| o1 K (Qe Je rfl) rfl fun _ K => o1 K (Qg rfl (M.load (k := 0) rfl (Qk Qx rfl))) rfl fun _ K => Qd ?_
 show W _ _ _ _ _ _ _
 refine Q5 <| Qh <| Qa <| o1 K (Jo (b := [118, 97, 114]) rfl rfl) rfl fun _ K => o1 K (Qb rfl) rfl fun _ K => Qd ?_
 show W _ _ _ _ _ _ _
 refine Qr (K.opd rfl) (fun h6 => ?_) (fun h6 => ?_)
 ·have hb6 := h6
  replace h6 := of_decide_eq_true h6
  refine Qh <| Qa <| o1 K (Qg rfl (M.load (k := 0) rfl (Ql Qi rfl))) rfl fun _ K => ?_
  obtain ⟨v9, st9, ev9, rfl, q9⟩ := has_ev M.fresh (hr0.mono M.rows) 0 true false
  refine o1 K (Qn rfl ev9) rfl fun _ K => ?_
  replace M := M.quiet q9
  refine o1 K (Qb rfl) rfl fun _ K => Qd ?_
  show W _ _ _ _ _ _ _
  refine Qs ?_
  refine ⟨.inr rfl, _, (Qm (Qp K rfl)), ?_⟩
  refine ⟨congrArg AV.bool ?_, M.qt⟩
  rw [Ua o s z a l, part_all l]
  try generalize l.all termN = q1 at *
  try generalize hq : l.any oddB = q2 at *
  try (have hq2 : q2 = true := by rw [hx, any_step hi65, oddB]; simp_all [Nd.op, oSet])
  try (have hq2 : q2 = false := by rw [hx, Jl (by omega)]; rfl)
  try clear hx
  try clear hq
  try clear M
  try clear ih
  try clear hr
  try clear hr0
  try clear hp
  try clear hn
  try clear hK
  try clear hb
  try clear hc
  try clear hm
  try clear hln
  try clear hbn
  try clear hf
  try (obtain hk := one_kid (Q8 (by assumption)) (by assumption); subst hk)
  try simp only [J7, J8, J9, J6] at *
  simp_all [bif', oVar, oNum, oPlus, oSet, isSetB, bareB, Nd.op] <;> first | done | rfl | omega | (congr 1; done) | (congr 2; done) | (intros; omega) | (intros; simp_all; done)
 have hb6 := h6
 replace h6 := of_decide_eq_false h6
 refine Qh <| Qa <| o1 K (Jo (b := [110, 117, 109]) rfl rfl) rfl fun _ K => o1 K (Qb rfl) rfl fun _ K => Qd ?_
 show W _ _ _ _ _ _ _
 refine Qr (K.opd rfl) (fun h10 => ?_) (fun h10 => ?_)
 ·have hb10 := h10
  replace h10 := of_decide_eq_true h10
  refine Qh <| Qa <| o1 K (Qg rfl (M.load (k := 0) rfl (Ql Qi rfl))) rfl fun _ K => ?_
  obtain ⟨v13, st13, ev13, rfl, q13⟩ := has_ev M.fresh (hr0.mono M.rows) 0 false true
  refine o1 K (Qn rfl ev13) rfl fun _ K => ?_
  replace M := M.quiet q13
  refine oB K (Qc rfl) rfl fun b14 _ e14 K => ?_
  cases b14
  ·refine gn K rfl rfl rfl rfl fun _ K => gn K rfl rfl rfl rfl fun _ K => gn K rfl rfl rfl rfl fun _ K => o1 K (Qj rfl rfl rfl) rfl fun _ K => o1 K (Qc rfl) rfl fun _ K => gn K rfl rfl rfl rfl fun _ K => gn K rfl rfl rfl rfl fun _ K => gn K rfl rfl rfl rfl fun _ K => o1 K (Qj rfl rfl rfl) rfl fun _ K => ?_
   refine o1 K (Qb rfl) rfl fun _ K => Qd ?_
   show W _ _ _ _ _ _ _
   refine Qs ?_
   refine ⟨.inr rfl, _, (Qm (Qp K rfl)), ?_⟩
   refine ⟨congrArg AV.bool ?_, M.qt⟩
   rw [Ua o s z a l, part_all l]
   try generalize l.all termN = q1 at *
   try generalize hq : l.any oddB = q2 at *
   try (have hq2 : q2 = true := by rw [hx, any_step hi65, oddB]; simp_all [Nd.op, oSet])
   try (have hq2 : q2 = false := by rw [hx, Jl (by omega)]; rfl)
   try clear hx
   try clear hq
   try clear M
   try clear ih
   try clear hr
   try clear hr0
   try clear hp
   try clear hn
   try clear hK
   try clear hb
   try clear hc
   try clear hm
   try clear hln
   try clear hbn
   try clear hf
   try (obtain hk := one_kid (Q8 (by assumption)) (by assumption); subst hk)
   try simp only [J7, J8, J9, J6] at *
   simp_all [bif', oVar, oNum, oPlus, oSet, isSetB, bareB, Nd.op] <;> first | done | rfl | omega | (congr 1; done) | (congr 2; done) | (intros; omega) | (intros; simp_all; done)
  refine og K rfl rfl (Qe Jp rfl) rfl fun _ K => og K rfl rfl (Qg rfl (M.load (k := 0) rfl (Qk Ju rfl))) rfl fun _ K => og K rfl rfl (os_geq rfl rfl) rfl fun _ K => o1 K (Qj rfl rfl rfl) rfl fun _ K => ?_
  refine oB K (Qc rfl) rfl fun b19 _ e19 K => ?_
  cases b19
  ·replace e19 := of_decide_eq_false e19
   refine gn K rfl rfl rfl rfl fun _ K => gn K rfl rfl rfl rfl fun _ K => gn K rfl rfl rfl rfl fun _ K => o1 K (Qj rfl rfl rfl) rfl fun _ K => o1 K (Qb rfl) rfl fun _ K => Qd ?_
   show W _ _ _ _ _ _ _
   refine Qs ?_
   refine ⟨.inr rfl, _, (Qm (Qp K rfl)), ?_⟩
   refine ⟨congrArg AV.bool ?_, M.qt⟩
   rw [Ua o s z a l, part_all l]
   try generalize l.all termN = q1 at *
   try generalize hq : l.any oddB = q2 at *
   try (have hq2 : q2 = true := by rw [hx, any_step hi65, oddB]; simp_all [Nd.op, oSet])
   try (have hq2 : q2 = false := by rw [hx, Jl (by omega)]; rfl)
   try clear hx
   try clear hq
   try clear M
   try clear ih
   try clear hr
   try clear hr0
   try clear hp
   try clear hn
   try clear hK
   try clear hb
   try clear hc
   try clear hm
   try clear hln
   try clear hbn
   try clear hf
   try (obtain hk := one_kid (Q8 (by assumption)) (by assumption); subst hk)
   try simp only [J7, J8, J9, J6] at *
   simp_all [bif', oVar, oNum, oPlus, oSet, isSetB, bareB, Nd.op] <;> first | done | rfl | omega | (congr 1; done) | (congr 2; done) | (intros; omega) | (intros; simp_all; done)
  replace e19 := of_decide_eq_true e19
  refine og K rfl rfl (Qe Jp rfl) rfl fun _ K => og K rfl rfl (Qg rfl (M.load (k := 0) rfl (Qk Ju rfl))) rfl fun _ K => og K rfl rfl (os_leq rfl rfl) rfl fun _ K => o1 K (Qj rfl rfl rfl) rfl fun _ K => o1 K (Qb rfl) rfl fun _ K => Qd ?_
  show W _ _ _ _ _ _ _
  refine Qs ?_
  refine ⟨.inr rfl, _, (Qm (Qp K rfl)), ?_⟩
  refine ⟨congrArg AV.bool ?_, M.qt⟩
  rw [Ua o s z a l, part_all l]
  try generalize l.all termN = q1 at *
  try generalize hq : l.any oddB = q2 at *
  try (have hq2 : q2 = true := by rw [hx, any_step hi65, oddB]; simp_all [Nd.op, oSet])
  try (have hq2 : q2 = false := by rw [hx, Jl (by omega)]; rfl)
  try clear hx
  try clear hq
  try clear M
  try clear ih
  try clear hr
  try clear hr0
  try clear hp
  try clear hn
  try clear hK
  try clear hb
  try clear hc
  try clear hm
  try clear hln
  try clear hbn
  try clear hf
  try (obtain hk := one_kid (Q8 (by assumption)) (by assumption); subst hk)
  try simp only [J7, J8, J9, J6] at *
  simp_all [bif', oVar, oNum, oPlus, oSet, isSetB, bareB, Nd.op] <;> first | done | rfl | omega | (congr 1; done) | (congr 2; done) | (intros; omega) | (intros; simp_all; done)
 have hb10 := h10
 replace h10 := of_decide_eq_false h10
 refine Qh <| Qa <| o1 K (Jo (b := [112, 108, 117, 115]) rfl rfl) rfl fun _ K => o1 K (Qb rfl) rfl fun _ K => Qd ?_
 show W _ _ _ _ _ _ _
 refine Qr (K.opd rfl) (fun h24 => ?_) (fun h24 => ?_)
 ·have hb24 := h24
  replace h24 := of_decide_eq_true h24
  refine Qh <| Qa <| o1 K (Qg rfl (M.load (k := 0) rfl (Ql Qi rfl))) rfl fun _ K => ?_
  obtain ⟨v27, st27, ev27, rfl, q27⟩ := has_ev M.fresh (hr0.mono M.rows) 1 false true
  refine o1 K (Qn rfl ev27) rfl fun _ K => ?_
  replace M := M.quiet q27
  refine oB K (Qc rfl) rfl fun b28 _ e28 K => ?_
  cases b28
  ·refine gn K rfl rfl rfl rfl fun _ K => gn K rfl rfl rfl rfl fun _ K => gn K rfl rfl rfl rfl fun _ K => o1 K (Qj rfl rfl rfl) rfl fun _ K => o1 K (Qc rfl) rfl fun _ K => gn K rfl rfl rfl rfl fun _ K => gn K rfl rfl rfl rfl fun _ K => gn K rfl rfl rfl rfl fun _ K => o1 K (Qj rfl rfl rfl) rfl fun _ K => ?_
   refine o1 K (Qc rfl) rfl fun _ K => gn K rfl rfl rfl rfl fun _ K => gn K rfl rfl rfl rfl fun _ K => gn K rfl rfl rfl rfl fun _ K => gn K rfl rfl rfl rfl fun _ K => gn K rfl rfl rfl rfl fun _ K => gn K rfl rfl rfl rfl fun _ K => o1 K (Qj rfl rfl rfl) rfl fun _ K => o1 K (Qc rfl) rfl fun _ K => ?_
   refine gn K rfl rfl rfl rfl fun _ K => gn K rfl rfl rfl rfl fun _ K => gn K rfl rfl rfl rfl fun _ K => gn K rfl rfl rfl rfl fun _ K => gn K rfl rfl rfl rfl fun _ K => o1 K (Qj rfl rfl rfl) rfl fun _ K => o1 K (Qb rfl) rfl fun _ K => Qd ?_
   show W _ _ _ _ _ _ _
   refine Qs ?_
   refine ⟨.inr rfl, _, (Qm (Qp K rfl)), ?_⟩
   refine ⟨congrArg AV.bool ?_, M.qt⟩
   rw [Ua o s z a l, part_all l]
   try generalize l.all termN = q1 at *
   try generalize hq : l.any oddB = q2 at *
   try (have hq2 : q2 = true := by rw [hx, any_step hi65, oddB]; simp_all [Nd.op, oSet])
   try (have hq2 : q2 = false := by rw [hx, Jl (by omega)]; rfl)
   try clear hx
   try clear hq
   try clear M
   try clear ih
   try clear hr
   try clear hr0
   try clear hp
   try clear hn
   try clear hK
   try clear hb
   try clear hc
   try clear hm
   try clear hln
   try clear hbn
   try clear hf
   try (obtain hk := one_kid (Q8 (by assumption)) (by assumption); subst hk)
   try simp only [J7, J8, J9, J6] at *
   simp_all [bif', oVar, oNum, oPlus, oSet, isSetB, bareB, Nd.op] <;> first | done | rfl | omega | (congr 1; done) | (congr 2; done) | (intros; omega) | (intros; simp_all; done)
  refine og K rfl rfl (Qe Jp rfl) rfl fun _ K => og K rfl rfl (Qg rfl (M.load (k := 0) rfl (Qk Ju rfl))) rfl fun _ K => og K rfl rfl (os_geq rfl rfl) rfl fun _ K => o1 K (Qj rfl rfl rfl) rfl fun _ K => ?_
  refine oB K (Qc rfl) rfl fun b33 _ e33 K => ?_
  cases b33
  ·replace e33 := of_decide_eq_false e33
   refine gn K rfl rfl rfl rfl fun _ K => gn K rfl rfl rfl rfl fun _ K => gn K rfl rfl rfl rfl fun _ K => o1 K (Qj rfl rfl rfl) rfl fun _ K => o1 K (Qc rfl) rfl fun _ K => gn K rfl rfl rfl rfl fun _ K => gn K rfl rfl rfl rfl fun _ K => gn K rfl rfl rfl rfl fun _ K => gn K rfl rfl rfl rfl fun _ K => ?_
   refine gn K rfl rfl rfl rfl fun _ K => gn K rfl rfl rfl rfl fun _ K => o1 K (Qj rfl rfl rfl) rfl fun _ K => o1 K (Qc rfl) rfl fun _ K => gn K rfl rfl rfl rfl fun _ K => gn K rfl rfl rfl rfl fun _ K => gn K rfl rfl rfl rfl fun _ K => gn K rfl rfl rfl rfl fun _ K => gn K rfl rfl rfl rfl fun _ K => ?_
   refine o1 K (Qj rfl rfl rfl) rfl fun _ K => o1 K (Qb rfl) rfl fun _ K => Qd ?_
   show W _ _ _ _ _ _ _
   refine Qs ?_
   refine ⟨.inr rfl, _, (Qm (Qp K rfl)), ?_⟩
   refine ⟨congrArg AV.bool ?_, M.qt⟩
   rw [Ua o s z a l, part_all l]
   try generalize l.all termN = q1 at *
   try generalize hq : l.any oddB = q2 at *
   try (have hq2 : q2 = true := by rw [hx, any_step hi65, oddB]; simp_all [Nd.op, oSet])
   try (have hq2 : q2 = false := by rw [hx, Jl (by omega)]; rfl)
   try clear hx
   try clear hq
   try clear M
   try clear ih
   try clear hr
   try clear hr0
   try clear hp
   try clear hn
   try clear hK
   try clear hb
   try clear hc
   try clear hm
   try clear hln
   try clear hbn
   try clear hf
   try (obtain hk := one_kid (Q8 (by assumption)) (by assumption); subst hk)
   try simp only [J7, J8, J9, J6] at *
   simp_all [bif', oVar, oNum, oPlus, oSet, isSetB, bareB, Nd.op] <;> first | done | rfl | omega | (congr 1; done) | (congr 2; done) | (intros; omega) | (intros; simp_all; done)
  replace e33 := of_decide_eq_true e33
  refine og K rfl rfl (Qe Jp rfl) rfl fun _ K => og K rfl rfl (Qg rfl (M.load (k := 0) rfl (Qk Ju rfl))) rfl fun _ K => og K rfl rfl (os_leq rfl rfl) rfl fun _ K => o1 K (Qj rfl rfl rfl) rfl fun _ K => ?_
  refine oB K (Qc rfl) rfl fun b38 _ e38 K => ?_
  cases b38
  ·replace e38 := of_decide_eq_false e38
   refine gn K rfl rfl rfl rfl fun _ K => gn K rfl rfl rfl rfl fun _ K => gn K rfl rfl rfl rfl fun _ K => gn K rfl rfl rfl rfl fun _ K => gn K rfl rfl rfl rfl fun _ K => gn K rfl rfl rfl rfl fun _ K => o1 K (Qj rfl rfl rfl) rfl fun _ K => o1 K (Qc rfl) rfl fun _ K => gn K rfl rfl rfl rfl fun _ K => ?_
   refine gn K rfl rfl rfl rfl fun _ K => gn K rfl rfl rfl rfl fun _ K => gn K rfl rfl rfl rfl fun _ K => gn K rfl rfl rfl rfl fun _ K => o1 K (Qj rfl rfl rfl) rfl fun _ K => o1 K (Qb rfl) rfl fun _ K => Qd ?_
   show W _ _ _ _ _ _ _
   refine Qs ?_
   refine ⟨.inr rfl, _, (Qm (Qp K rfl)), ?_⟩
   refine ⟨congrArg AV.bool ?_, M.qt⟩
   rw [Ua o s z a l, part_all l]
   try generalize l.all termN = q1 at *
   try generalize hq : l.any oddB = q2 at *
   try (have hq2 : q2 = true := by rw [hx, any_step hi65, oddB]; simp_all [Nd.op, oSet])
   try (have hq2 : q2 = false := by rw [hx, Jl (by omega)]; rfl)
   try clear hx
   try clear hq
   try clear M
   try clear ih
   try clear hr
   try clear hr0
   try clear hp
   try clear hn
   try clear hK
   try clear hb
   try clear hc
   try clear hm
   try clear hln
   try clear hbn
   try clear hf
   try (obtain hk := one_kid (Q8 (by assumption)) (by assumption); subst hk)
   try simp only [J7, J8, J9, J6] at *
   simp_all [bif', oVar, oNum, oPlus, oSet, isSetB, bareB, Nd.op] <;> first | done | rfl | omega | (congr 1; done) | (congr 2; done) | (intros; omega) | (intros; simp_all; done)
  replace e38 := of_decide_eq_true e38
  refine og K rfl rfl (Qe Qw rfl) rfl fun _ K => og K rfl rfl (Qg rfl (M.load (k := 0) rfl (Qk Qu rfl))) rfl fun _ K => ?_
  obtain ⟨⟨o41, s41, z41, a41, l41⟩, hi41⟩ : ∃ k, l[0]? = some k := ⟨_, List.getElem?_eq_getElem (by first | omega | (have := bare_len (m := 1) (l := l) (by assumption); omega) | (have := bare_len (m := 2) (l := l) (by assumption); omega) | (have := Q8 (m := 1) (l := l) (by assumption); omega) | (have := Q8 (m := 2) (l := l) (by assumption); omega))⟩
  have hm41 := kids_mem hi41
  obtain ⟨_, hc41, hn41⟩ := hK.at_ _ _ hi41
  have hp41 := hn41
  obtain ⟨kk41, ls41, rfl, hK41, hb41⟩ := hp41.open5
  obtain ⟨x41, m41, f41, q41, _, la41, lo41, lp41⟩ := (hK.r.mem M (by simp)).load (i := 0) (cs := _) hc41
  refine og K rfl rfl (Q0 (j := 0) Jf (congrArg some q41) rfl (by rw [hK.ln]; first | omega | (have := bare_len (m := 1) (l := l) (by assumption); omega) | (have := bare_len (m := 2) (l := l) (by assumption); omega) | (have := Q8 (m := 1) (l := l) (by assumption); omega) | (have := Q8 (m := 2) (l := l) (by assumption); omega))) rfl fun _ K => og K rfl rfl (Qe Je rfl) rfl fun _ K => og K rfl rfl (Qg rfl (lo41 _ 0 _ Qx rfl)) rfl fun _ K => og K rfl rfl (Jo (b := [118, 97, 114]) rfl rfl) rfl fun _ K => o1 K (Qj rfl rfl rfl) rfl fun _ K => ?_
  refine oB K (Qc rfl) rfl fun b46 _ e46 K => ?_
  cases b46
  ·replace e46 := of_decide_eq_false e46
   refine gn K rfl rfl rfl rfl fun _ K => gn K rfl rfl rfl rfl fun _ K => gn K rfl rfl rfl rfl fun _ K => gn K rfl rfl rfl rfl fun _ K => gn K rfl rfl rfl rfl fun _ K => o1 K (Qj rfl rfl rfl) rfl fun _ K => o1 K (Qb rfl) rfl fun _ K => Qd ?_
   show W _ _ _ _ _ _ _
   refine Qs ?_
   refine ⟨.inr rfl, _, (Qm (Qp K rfl)), ?_⟩
   refine ⟨congrArg AV.bool ?_, M.qt⟩
   rw [Ua o s z a l, part_all l]
   try generalize l.all termN = q1 at *
   try generalize hq : l.any oddB = q2 at *
   try (have hq2 : q2 = true := by rw [hx, any_step hi65, oddB]; simp_all [Nd.op, oSet])
   try (have hq2 : q2 = false := by rw [hx, Jl (by omega)]; rfl)
   try clear hx
   try clear hq
   try clear M
   try clear ih
   try clear hr
   try clear hr0
   try clear hp
   try clear hn
   try clear hK
   try clear hb
   try clear hc
   try clear hm
   try clear hp41
   try clear hn41
   try clear hK41
   try clear hb41
   try clear hc41
   try clear hm41
   try clear hln
   try clear hbn
   try clear hf
   try (obtain hk := one_kid (Q8 (by assumption)) (by assumption); subst hk)
   try simp only [J7, J8, J9, J6] at *
   simp_all [bif', oVar, oNum, oPlus, oSet, isSetB, bareB, Nd.op] <;> first | done | rfl | omega | (congr 1; done) | (congr 2; done) | (intros; omega) | (intros; simp_all; done)
  replace e46 := of_decide_eq_true e46
  refine og K rfl rfl (Qe Qw rfl) rfl fun _ K => og K rfl rfl (Qg rfl (M.load (k := 0) rfl (Qk Qu rfl))) rfl fun _ K => ?_
  obtain ⟨⟨o49, s49, z49, a49, l49⟩, hi49⟩ : ∃ k, l[0]? = some k := ⟨_, List.getElem?_eq_getElem (by first | omega | (have := bare_len (m := 1) (l := l) (by assumption); omega) | (have := bare_len (m := 2) (l := l) (by assumption); omega) | (have := Q8 (m := 1) (l := l) (by assumption); omega) | (have := Q8 (m := 2) (l := l) (by assumption); omega))⟩
  have hm49 := kids_mem hi49
  obtain ⟨_, hc49, hn49⟩ := hK.at_ _ _ hi49
  have hp49 := hn49
  obtain ⟨kk49, ls49, rfl, hK49, hb49⟩ := hp49.open5
  obtain ⟨x49, m49, f49, q49, _, la49, lo49, lp49⟩ := (hK.r.mem M (by simp)).load (i := 0) (cs := _) hc49
  refine og K rfl rfl (Q0 (j := 0) Jf (congrArg some q49) rfl (by rw [hK.ln]; first | omega | (have := bare_len (m := 1) (l := l) (by assumption); omega) | (have := bare_len (m := 2) (l := l) (by assumption); omega) | (have := Q8 (m := 1) (l := l) (by assumption); omega) | (have := Q8 (m := 2) (l := l) (by assumption); omega))) rfl fun _ K => og K rfl rfl (Qg rfl (la49 _ Qi)) rfl fun _ K => ?_
  obtain ⟨v51, st51, ev51, rfl, q51⟩ := ih _ (hm49) _ _ M.fresh (hn49.mono M.rows)
  refine og K rfl rfl (Qn rfl ev51) rfl fun _ K => ?_
  replace M := M.quiet q51
  refine o1 K (Qj rfl rfl rfl) rfl fun _ K => o1 K (Qb rfl) rfl fun _ K => Qd ?_
  show W _ _ _ _ _ _ _
  refine Qs ?_
  refine ⟨.inr rfl, _, (Qm (Qp K rfl)), ?_⟩
  refine ⟨congrArg AV.bool ?_, M.qt⟩
  rw [Ua o s z a l, part_all l]
  try generalize l.all termN = q1 at *
  try generalize hq : l.any oddB = q2 at *
  try (have hq2 : q2 = true := by rw [hx, any_step hi65, oddB]; simp_all [Nd.op, oSet])
  try (have hq2 : q2 = false := by rw [hx, Jl (by omega)]; rfl)
  try clear hx
  try clear hq
  try clear M
  try clear ih
  try clear hr
  try clear hr0
  try clear hp
  try clear hn
  try clear hK
  try clear hb
  try clear hc
  try clear hm
  try clear hp41
  try clear hn41
  try clear hK41
  try clear hb41
  try clear hc41
  try clear hm41
  try clear hp49
  try clear hn49
  try clear hK49
  try clear hb49
  try clear hc49
  try clear hm49
  try clear hln
  try clear hbn
  try clear hf
  try (obtain hk := one_kid (Q8 (by assumption)) (by assumption); subst hk)
  try simp only [J7, J8, J9, J6] at *
  simp_all [bif', oVar, oNum, oPlus, oSet, isSetB, bareB, Nd.op] <;> first | done | rfl | omega | (congr 1; done) | (congr 2; done) | (intros; omega) | (intros; simp_all; done)
 have hb24 := h24
 replace h24 := of_decide_eq_false h24
 refine Qh <| Qa <| o1 K (Jo (b := [115, 101, 116]) rfl rfl) rfl fun _ K => o1 K (Qb rfl) rfl fun _ K => Qd ?_
 show W _ _ _ _ _ _ _
 refine Qr (K.opd rfl) (fun h53 => ?_) (fun h53 => ?_)
 ·have hb53 := h53
  replace h53 := of_decide_eq_true h53
  refine Qh <| Qh <| Qa <| o1 K (Qb rfl) rfl fun _ K => Qd ?_
  show W _ _ _ _ _ _ _
  refine Q5 ?_
  refine w_loop (fun mm1 T st9 => ∃ (i : Nat), mm1 = l.length - i ∧ KnT [(1, .ptr c1 0 0), (3, .int .i64 (((i : Nat) : Int)))] T ∧ Mem st.h.get st.n [] st9 [(c1, 0, [.str o, .str s, .int .i64 z, .int .i64 a, kk])] ∧ i ≤ l.length ∧ l.any oddB = (l.drop i).any oddB) (fun mm1 T st9 hI => ?_) _ _ _ ⟨0, rfl, (.cons (K _ _ rfl) (.cons (K _ _ rfl) .nil)), M.less (.refl _), (Nat.zero_le _), (by rw [List.drop_zero])⟩
  obtain ⟨i, rfl, K, M, hi, hx⟩ := hI
  refine Qh <| Qh <| Qa <| o1 K (Qc rfl) rfl fun _ K => o1 K (Qe Qw rfl) rfl fun _ K => o1 K (Qg rfl (M.load (k := 0) rfl (Qk Qu rfl))) rfl fun _ K => o1 K (Jn Q9 rfl rfl hK.len) rfl fun _ K => o1 K (os_lss rfl rfl) rfl fun _ K => Qd ?_
  show W _ _ _ _ _ _ _
  refine Qr (K.opd rfl) (fun h59 => ?_) (fun h59 => ?_)
  ·have hb59 := h59
   replace h59 := of_decide_eq_true h59
   refine Q3 ?_
   show W _ _ _ _ _ _ _
   refine Qh <| Q5 <| Qh <| Qa <| o1 K (Qe Qw rfl) rfl fun _ K => o1 K (Qg rfl (M.load (k := 0) rfl (Qk Qu rfl))) rfl fun _ K => o1 K (Qc rfl) rfl fun _ K => ?_
   obtain ⟨⟨o65, s65, z65, a65, l65⟩, hi65⟩ : ∃ k, l[i]? = some k := ⟨_, List.getElem?_eq_getElem (by first | omega | (have := bare_len (m := 1) (l := l) (by assumption); omega) | (have := bare_len (m := 2) (l := l) (by assumption); omega) | (have := Q8 (m := 1) (l := l) (by assumption); omega) | (have := Q8 (m := 2) (l := l) (by assumption); omega))⟩
   have hm65 := kids_mem hi65
   obtain ⟨_, hc65, hn65⟩ := hK.at_ _ _ hi65
   have hp65 := hn65
   obtain ⟨kk65, ls65, rfl, hK65, hb65⟩ := hp65.open5
   obtain ⟨x65, m65, f65, q65, _, la65, lo65, lp65⟩ := (hK.r.mem M (by simp)).load (i := i) (cs := _) hc65
   refine o1 K (Q0 (j := i) Jf (congrArg some q65) rfl (by rw [hK.ln]; first | omega | (have := bare_len (m := 1) (l := l) (by assumption); omega) | (have := bare_len (m := 2) (l := l) (by assumption); omega) | (have := Q8 (m := 1) (l := l) (by assumption); omega) | (have := Q8 (m := 2) (l := l) (by assumption); omega))) rfl fun _ K => o1 K (Qg rfl (la65 _ Qi)) rfl fun _ K => ?_
   obtain ⟨v67, st67, ev67, rfl, q67⟩ := rSet_ev M.fresh (hn65.mono M.rows)
   refine o1 K (Qn rfl ev67) rfl fun _ K => ?_
   replace M := M.quiet q67
   refine oB K (Qc rfl) rfl fun b68 _ e68 K => ?_
   cases b68
   ·refine og K rfl rfl (Qe Qw rfl) rfl fun _ K => og K rfl rfl (Qg rfl (M.load (k := 0) rfl (Qk Qu rfl))) rfl fun _ K => og K rfl rfl (Qc rfl) rfl fun _ K => ?_
    obtain ⟨⟨o72, s72, z72, a72, l72⟩, hi72⟩ : ∃ k, l[i]? = some k := ⟨_, List.getElem?_eq_getElem (by first | omega | (have := bare_len (m := 1) (l := l) (by assumption); omega) | (have := bare_len (m := 2) (l := l) (by assumption); omega) | (have := Q8 (m := 1) (l := l) (by assumption); omega) | (have := Q8 (m := 2) (l := l) (by assumption); omega))⟩
    have hm72 := kids_mem hi72
    obtain ⟨_, hc72, hn72⟩ := hK.at_ _ _ hi72
    have hp72 := hn72
    obtain ⟨kk72, ls72, rfl, hK72, hb72⟩ := hp72.open5
    obtain ⟨x72, m72, f72, q72, _, la72, lo72, lp72⟩ := (hK.r.mem M (by simp)).load (i := i) (cs := _) hc72
    refine og K rfl rfl (Q0 (j := i) Jf (congrArg some q72) rfl (by rw [hK.ln]; first | omega | (have := bare_len (m := 1) (l := l) (by assumption); omega) | (have := bare_len (m := 2) (l := l) (by assumption); omega) | (have := Q8 (m := 1) (l := l) (by assumption); omega) | (have := Q8 (m := 2) (l := l) (by assumption); omega))) rfl fun _ K => og K rfl rfl (Qe Je rfl) rfl fun _ K => og K rfl rfl (Qg rfl (lo72 _ 0 _ Qx rfl)) rfl fun _ K => og K rfl rfl (Jo (b := [115, 101, 116]) rfl rfl) rfl fun _ K => o1 K (Qj rfl rfl rfl) rfl fun _ K => Qd ?_
    show W _ _ _ _ _ _ _
    refine Qr (K.opd rfl) (fun h76 => ?_) (fun h76 => ?_)
    ·have hb76 := h76
     replace h76 := of_decide_eq_true h76
     refine Qh <| Qa <| o1 K (Qb rfl) rfl fun _ K => Qd ?_
     show W _ _ _ _ _ _ _
     refine Qs ?_
     refine ⟨.inr rfl, _, (Qm (Qp K rfl)), ?_⟩
     refine ⟨congrArg AV.bool ?_, M.qt⟩
     rw [Ua o s z a l, part_all l]
     try generalize l.all termN = q1 at *
     try generalize hq : l.any oddB = q2 at *
     try (have hq2 : q2 = true := by rw [hx, any_step hi65, oddB]; simp_all [Nd.op, oSet])
     try (have hq2 : q2 = false := by rw [hx, Jl (by omega)]; rfl)
     try clear hx
     try clear hq
     try clear M
     try clear ih
     try clear hr
     try clear hr0
     try clear hp
     try clear hn
     try clear hK
     try clear hb
     try clear hc
     try clear hm
     try clear hp65
     try clear hn65
     try clear hK65
     try clear hb65
     try clear hc65
     try clear hm65
     try clear hp72
     try clear hn72
     try clear hK72
     try clear hb72
     try clear hc72
     try clear hm72
     try clear hln
     try clear hbn
     try clear hf
     try (obtain hk := one_kid (Q8 (by assumption)) (by assumption); subst hk)
     try simp only [J7, J8, J9, J6] at *
     simp_all [bif', oVar, oNum, oPlus, oSet, isSetB, bareB, Nd.op] <;> first | done | rfl | omega | (congr 1; done) | (congr 2; done) | (intros; omega) | (intros; simp_all; done)
    have hb76 := h76
    replace h76 := of_decide_eq_false h76
    refine Q3 ?_
    show W _ _ _ _ _ _ _
    refine Qa <| o1 K (Qc rfl) rfl fun _ K => o1 K (Jm rfl rfl (by omega) (by omega)) rfl fun _ K => o1 K (Qb rfl) rfl fun _ K => Qd ?_
    exact ⟨_, (by omega), i + 1, rfl, (.cons (K _ _ rfl) (.cons (K _ _ rfl) .nil)), M.less (.refl _), (by omega), (by rw [hx, any_step hi65, oddB]; simp_all [Nd.op, oSet])⟩
   refine gn K rfl rfl rfl rfl fun _ K => gn K rfl rfl rfl rfl fun _ K => gn K rfl rfl rfl rfl fun _ K => gn K rfl rfl rfl rfl fun _ K => gn K rfl rfl rfl rfl fun _ K => gn K rfl rfl rfl rfl fun _ K => gn K rfl rfl rfl rfl fun _ K => o1 K (Qj rfl rfl rfl) rfl fun _ K => Qd ?_
   show W _ _ _ _ _ _ _
   refine Qr (t := true) (K.opd rfl) (fun _ => ?_) (fun h => by cases h)
   refine Qh <| Qa <| o1 K (Qb rfl) rfl fun _ K => Qd ?_
   show W _ _ _ _ _ _ _
   refine Qs ?_
   refine ⟨.inr rfl, _, (Qm (Qp K rfl)), ?_⟩
   refine ⟨congrArg AV.bool ?_, M.qt⟩
   rw [Ua o s z a l, part_all l]
   try generalize l.all termN = q1 at *
   try generalize hq : l.any oddB = q2 at *
   try (have hq2 : q2 = true := by rw [hx, any_step hi65, oddB]; simp_all [Nd.op, oSet])
   try (have hq2 : q2 = false := by rw [hx, Jl (by omega)]; rfl)
   try clear hx
   try clear hq
   try clear M
   try clear ih
   try clear hr
   try clear hr0
   try clear hp
   try clear hn
   try clear hK
   try clear hb
   try clear hc
   try clear hm
   try clear hp65
   try clear hn65
   try clear hK65
   try clear hb65
   try clear hc65
   try clear hm65
   try clear hln
   try clear hbn
   try clear hf
   try (obtain hk := one_kid (Q8 (by assumption)) (by assumption); subst hk)
   try simp only [J7, J8, J9, J6] at *
   simp_all [bif', oVar, oNum, oPlus, oSet, isSetB, bareB, Nd.op] <;> first | done | rfl | omega | (congr 1; done) | (congr 2; done) | (intros; omega) | (intros; simp_all; done)
  have hb59 := h59
  replace h59 := of_decide_eq_false h59
  refine Uk ?_
  show W _ _ _ _ _ _ _
  refine Qh <| Qa <| o1 K (Qg rfl (M.load (k := 0) rfl (Ql Qi rfl))) rfl fun _ K => o1 K (Qe Qw rfl) rfl fun _ K => o1 K (Qg rfl (M.load (k := 0) rfl (Qk Qu rfl))) rfl fun _ K => o1 K (Jn Q9 rfl rfl hK.len) rfl fun _ K => ?_
  obtain ⟨v81, st81, ev81, rfl, q81⟩ := has_ev M.fresh (hr0.mono M.rows) (((l.length : Nat) : Int)) false false
  refine o1 K (Qn rfl ev81) rfl fun _ K => ?_
  replace M := M.quiet q81
  refine oB K (Qc rfl) rfl fun b82 _ e82 K => ?_
  cases b82
  ·refine gn K rfl rfl rfl rfl fun _ K => gn K rfl rfl rfl rfl fun _ K => gn K rfl rfl rfl rfl fun _ K => gn K rfl rfl rfl rfl fun _ K => o1 K (Qj rfl rfl rfl) rfl fun _ K => o1 K (Qc rfl) rfl fun _ K => gn K rfl rfl rfl rfl fun _ K => gn K rfl rfl rfl rfl fun _ K => o1 K (Qj rfl rfl rfl) rfl fun _ K => ?_
   refine o1 K (Qb rfl) rfl fun _ K => Qd ?_
   show W _ _ _ _ _ _ _
   refine Qs ?_
   refine ⟨.inr rfl, _, (Qm (Qp K rfl)), ?_⟩
   refine ⟨congrArg AV.bool ?_, M.qt⟩
   rw [Ua o s z a l, part_all l]
   try generalize l.all termN = q1 at *
   try generalize hq : l.any oddB = q2 at *
   try (have hq2 : q2 = true := by rw [hx, any_step hi65, oddB]; simp_all [Nd.op, oSet])
   try (have hq2 : q2 = false := by rw [hx, Jl (by omega)]; rfl)
   try clear hx
   try clear hq
   try clear M
   try clear ih
   try clear hr
   try clear hr0
   try clear hp
   try clear hn
   try clear hK
   try clear hb
   try clear hc
   try clear hm
   try clear hln
   try clear hbn
   try clear hf
   try (obtain hk := one_kid (Q8 (by assumption)) (by assumption); subst hk)
   try simp only [J7, J8, J9, J6] at *
   simp_all [bif', oVar, oNum, oPlus, oSet, isSetB, bareB, Nd.op] <;> first | done | rfl | omega | (congr 1; done) | (congr 2; done) | (intros; omega) | (intros; simp_all; done)
  refine og K rfl rfl (Qe Qw rfl) rfl fun _ K => og K rfl rfl (Qg rfl (M.load (k := 0) rfl (Qk Qu rfl))) rfl fun _ K => og K rfl rfl (Jn Q9 rfl rfl hK.len) rfl fun _ K => og K rfl rfl (os_leq rfl rfl) rfl fun _ K => o1 K (Qj rfl rfl rfl) rfl fun _ K => ?_
  refine oB K (Qc rfl) rfl fun b88 _ e88 K => ?_
  cases b88
  ·replace e88 := of_decide_eq_false e88
   refine gn K rfl rfl rfl rfl fun _ K => gn K rfl rfl rfl rfl fun _ K => o1 K (Qj rfl rfl rfl) rfl fun _ K => o1 K (Qb rfl) rfl fun _ K => Qd ?_
   show W _ _ _ _ _ _ _
   refine Qs ?_
   refine ⟨.inr rfl, _, (Qm (Qp K rfl)), ?_⟩
   refine ⟨congrArg AV.bool ?_, M.qt⟩
   rw [Ua o s z a l, part_all l]
   try generalize l.all termN = q1 at *
   try generalize hq : l.any oddB = q2 at *
   try (have hq2 : q2 = true := by rw [hx, any_step hi65, oddB]; simp_all [Nd.op, oSet])
   try (have hq2 : q2 = false := by rw [hx, Jl (by omega)]; rfl)
   try clear hx
   try clear hq
   try clear M
   try clear ih
   try clear hr
   try clear hr0
   try clear hp
   try clear hn
   try clear hK
   try clear hb
   try clear hc
   try clear hm
   try clear hln
   try clear hbn
   try clear hf
   try (obtain hk := one_kid (Q8 (by assumption)) (by assumption); subst hk)
   try simp only [J7, J8, J9, J6] at *
   simp_all [bif', oVar, oNum, oPlus, oSet, isSetB, bareB, Nd.op] <;> first | done | rfl | omega | (congr 1; done) | (congr 2; done) | (intros; omega) | (intros; simp_all; done)
  replace e88 := of_decide_eq_true e88
  refine og K rfl rfl (Qg rfl (M.load (k := 0) rfl (Ql Qi rfl))) rfl fun _ K => ?_
  obtain ⟨v90, st90, ev90, rfl, q90⟩ := rTerms_ev M.fresh (hr0.mono M.rows) ih
  refine og K rfl rfl (Qn rfl ev90) rfl fun _ K => ?_
  replace M := M.quiet q90
  refine o1 K (Qj rfl rfl rfl) rfl fun _ K => o1 K (Qb rfl) rfl fun _ K => Qd ?_
  show W _ _ _ _ _ _ _
  refine Qs ?_
  refine ⟨.inr rfl, _, (Qm (Qp K rfl)), ?_⟩
  refine ⟨congrArg AV.bool ?_, M.qt⟩
  rw [Ua o s z a l, part_all l]
  try generalize l.all termN = q1 at *
  try generalize hq : l.any oddB = q2 at *
  try (have hq2 : q2 = true := by rw [hx, any_step hi65, oddB]; simp_all [Nd.op, oSet])
  try (have hq2 : q2 = false := by rw [hx, Jl (by omega)]; rfl)
  try clear hx
  try clear hq
  try clear M
  try clear ih
  try clear hr
  try clear hr0
  try clear hp
  try clear hn
  try clear hK
  try clear hb
  try clear hc
  try clear hm
  try clear hln
  try clear hbn
  try clear hf
  try (obtain hk := one_kid (Q8 (by assumption)) (by assumption); subst hk)
  try simp only [J7, J8, J9, J6] at *
  simp_all [bif', oVar, oNum, oPlus, oSet, isSetB, bareB, Nd.op] <;> first | done | rfl | omega | (congr 1; done) | (congr 2; done) | (intros; omega) | (intros; simp_all; done)
 have hb53 := h53
 replace h53 := of_decide_eq_false h53
 refine Q3 ?_
 show W _ _ _ _ _ _ _
 refine Qh <| Qa <| o1 K (Qg rfl (M.load (k := 0) rfl (Ql Qi rfl))) rfl fun _ K => ?_
 obtain ⟨v93, st93, ev93, rfl, q93⟩ := rSet_ev M.fresh (hr0.mono M.rows)
 refine o1 K (Qn rfl ev93) rfl fun _ K => ?_
 replace M := M.quiet q93
 refine oB K (Qc rfl) rfl fun b94 _ e94 K => ?_
 cases b94
 ·refine gn K rfl rfl rfl rfl fun _ K => gn K rfl rfl rfl rfl fun _ K => o1 K (Qj rfl rfl rfl) rfl fun _ K => o1 K (Qc rfl) rfl fun _ K => gn K rfl rfl rfl rfl fun _ K => gn K rfl rfl rfl rfl fun _ K => o1 K (Qj rfl rfl rfl) rfl fun _ K => o1 K (Qc rfl) rfl fun _ K => gn K rfl rfl rfl rfl fun _ K => ?_
  refine gn K rfl rfl rfl rfl fun _ K => gn K rfl rfl rfl rfl fun _ K => gn K rfl rfl rfl rfl fun _ K => gn K rfl rfl rfl rfl fun _ K => gn K rfl rfl rfl rfl fun _ K => o1 K (Qj rfl rfl rfl) rfl fun _ K => o1 K (Qb rfl) rfl fun _ K => Qd ?_
  show W _ _ _ _ _ _ _
  refine Qs ?_
  refine ⟨.inr rfl, _, (Qm (Qp K rfl)), ?_⟩
  refine ⟨congrArg AV.bool ?_, M.qt⟩
  rw [Ua o s z a l, part_all l]
  try generalize l.all termN = q1 at *
  try generalize hq : l.any oddB = q2 at *
  try (have hq2 : q2 = true := by rw [hx, any_step hi65, oddB]; simp_all [Nd.op, oSet])
  try (have hq2 : q2 = false := by rw [hx, Jl (by omega)]; rfl)
  try clear hx
  try clear hq
  try clear M
  try clear ih
  try clear hr
  try clear hr0
  try clear hp
  try clear hn
  try clear hK
  try clear hb
  try clear hc
  try clear hm
  try clear hln
  try clear hbn
  try clear hf
  try (obtain hk := one_kid (Q8 (by assumption)) (by assumption); subst hk)
  try simp only [J7, J8, J9, J6] at *
  simp_all [bif', oVar, oNum, oPlus, oSet, isSetB, bareB, Nd.op] <;> first | done | rfl | omega | (congr 1; done) | (congr 2; done) | (intros; omega) | (intros; simp_all; done)
 refine og K rfl rfl (Qg rfl (M.load (k := 0) rfl (Ql Qi rfl))) rfl fun _ K => ?_
 obtain ⟨v96, st96, ev96, rfl, q96⟩ := has_ev M.fresh (hr0.mono M.rows) 2 false false
 refine og K rfl rfl (Qn rfl ev96) rfl fun _ K => ?_
 replace M := M.quiet q96
 refine o1 K (Qj rfl rfl rfl) rfl fun _ K => ?_
 refine oB K (Qc rfl) rfl fun b98 _ e98 K => ?_
 cases b98
 ·refine gn K rfl rfl rfl rfl fun _ K => gn K rfl rfl rfl rfl fun _ K => o1 K (Qj rfl rfl rfl) rfl fun _ K => o1 K (Qc rfl) rfl fun _ K => gn K rfl rfl rfl rfl fun _ K => gn K rfl rfl rfl rfl fun _ K => gn K rfl rfl rfl rfl fun _ K => gn K rfl rfl rfl rfl fun _ K => gn K rfl rfl rfl rfl fun _ K => ?_
  refine gn K rfl rfl rfl rfl fun _ K => o1 K (Qj rfl rfl rfl) rfl fun _ K => o1 K (Qb rfl) rfl fun _ K => Qd ?_
  show W _ _ _ _ _ _ _
  refine Qs ?_
  refine ⟨.inr rfl, _, (Qm (Qp K rfl)), ?_⟩
  refine ⟨congrArg AV.bool ?_, M.qt⟩
  rw [Ua o s z a l, part_all l]
  try generalize l.all termN = q1 at *
  try generalize hq : l.any oddB = q2 at *
  try (have hq2 : q2 = true := by rw [hx, any_step hi65, oddB]; simp_all [Nd.op, oSet])
  try (have hq2 : q2 = false := by rw [hx, Jl (by omega)]; rfl)
  try clear hx
  try clear hq
  try clear M
  try clear ih
  try clear hr
  try clear hr0
  try clear hp
  try clear hn
  try clear hK
  try clear hb
  try clear hc
  try clear hm
  try clear hln
  try clear hbn
  try clear hf
  try (obtain hk := one_kid (Q8 (by assumption)) (by assumption); subst hk)
  try simp only [J7, J8, J9, J6] at *
  simp_all [bif', oVar, oNum, oPlus, oSet, isSetB, bareB, Nd.op] <;> first | done | rfl | omega | (congr 1; done) | (congr 2; done) | (intros; omega) | (intros; simp_all; done)
 refine og K rfl rfl (Qg rfl (M.load (k := 0) rfl (Ql Qi rfl))) rfl fun _ K => ?_
 obtain ⟨v100, st100, ev100, rfl, q100⟩ := rTerms_ev M.fresh (hr0.mono M.rows) ih
 refine og K rfl rfl (Qn rfl ev100) rfl fun _ K => ?_
 replace M := M.quiet q100
 refine o1 K (Qj rfl rfl rfl) rfl fun _ K => ?_
 refine oB K (Qc rfl) rfl fun b102 _ e102 K => ?_
 cases b102
 ·refine gn K rfl rfl rfl rfl fun _ K => gn K rfl rfl rfl rfl fun _ K => gn K rfl rfl rfl rfl fun _ K => gn K rfl rfl rfl rfl fun _ K => gn K rfl rfl rfl rfl fun _ K => gn K rfl rfl rfl rfl fun _ K => o1 K (Qj rfl rfl rfl) rfl fun _ K => o1 K (Qb rfl) rfl fun _ K => Qd ?_
  show W _ _ _ _ _ _ _
  refine Qs ?_
  refine ⟨.inr rfl, _, (Qm (Qp K rfl)), ?_⟩
  refine ⟨congrArg AV.bool ?_, M.qt⟩
  rw [Ua o s z a l, part_all l]
  try generalize l.all termN = q1 at *
  try generalize hq : l.any oddB = q2 at *
  try (have hq2 : q2 = true := by rw [hx, any_step hi65, oddB]; simp_all [Nd.op, oSet])
  try (have hq2 : q2 = false := by rw [hx, Jl (by omega)]; rfl)
  try clear hx
  try clear hq
  try clear M
  try clear ih
  try clear hr
  try clear hr0
  try clear hp
  try clear hn
  try clear hK
  try clear hb
  try clear hc
  try clear hm
  try clear hln
  try clear hbn
  try clear hf
  try (obtain hk := one_kid (Q8 (by assumption)) (by assumption); subst hk)
  try simp only [J7, J8, J9, J6] at *
  simp_all [bif', oVar, oNum, oPlus, oSet, isSetB, bareB, Nd.op] <;> first | done | rfl | omega | (congr 1; done) | (congr 2; done) | (intros; omega) | (intros; simp_all; done)
 refine og K rfl rfl (Qe Qw rfl) rfl fun _ K => og K rfl rfl (Qg rfl (M.load (k := 0) rfl (Qk Qu rfl))) rfl fun _ K => ?_
 obtain ⟨⟨o105, s105, z105, a105, l105⟩, hi105⟩ : ∃ k, l[1]? = some k := ⟨_, List.getElem?_eq_getElem (by first | omega | (have := bare_len (m := 1) (l := l) (by assumption); omega) | (have := bare_len (m := 2) (l := l) (by assumption); omega) | (have := Q8 (m := 1) (l := l) (by assumption); omega) | (have := Q8 (m := 2) (l := l) (by assumption); omega))⟩
 have hm105 := kids_mem hi105
 obtain ⟨_, hc105, hn105⟩ := hK.at_ _ _ hi105
 have hp105 := hn105
 obtain ⟨kk105, ls105, rfl, hK105, hb105⟩ := hp105.open5
 obtain ⟨x105, m105, f105, q105, _, la105, lo105, lp105⟩ := (hK.r.mem M (by simp)).load (i := 1) (cs := _) hc105
 refine og K rfl rfl (Q0 (j := 1) Jf (congrArg some q105) rfl (by rw [hK.ln]; first | omega | (have := bare_len (m := 1) (l := l) (by assumption); omega) | (have := bare_len (m := 2) (l := l) (by assumption); omega) | (have := Q8 (m := 1) (l := l) (by assumption); omega) | (have := Q8 (m := 2) (l := l) (by assumption); omega))) rfl fun _ K => og K rfl rfl (Qg rfl (la105 _ Qi)) rfl fun _ K => ?_
 obtain ⟨v107, st107, ev107, rfl, q107⟩ := rSet_ev M.fresh (hn105.mono M.rows)
 refine og K rfl rfl (Qn rfl ev107) rfl fun _ K => ?_
 replace M := M.quiet q107
 refine og K rfl rfl (os_not rfl) rfl fun _ K => o1 K (Qj rfl rfl rfl) rfl fun _ K => o1 K (Qb rfl) rfl fun _ K => Qd ?_
 show W _ _ _ _ _ _ _
 refine Qs ?_
 refine ⟨.inr rfl, _, (Qm (Qp K rfl)), ?_⟩
 refine ⟨congrArg AV.bool ?_, M.qt⟩
 rw [Ua o s z a l, part_all l]
 try generalize l.all termN = q1 at *
 try generalize hq : l.any oddB = q2 at *
 try (have hq2 : q2 = true := by rw [hx, any_step hi65, oddB]; simp_all [Nd.op, oSet])
 try (have hq2 : q2 = false := by rw [hx, Jl (by omega)]; rfl)
 try clear hx
 try clear hq
 try clear M
 try clear ih
 try clear hr
 try clear hr0
 try clear hp
 try clear hn
 try clear hK
 try clear hb
 try clear hc
 try clear hm
 try clear hp105
 try clear hn105
 try clear hK105
 try clear hb105
 try clear hc105
 try clear hm105
 try clear hln
 try clear hbn
 try clear hf
 try (obtain hk := one_kid (Q8 (by assumption)) (by assumption); subst hk)
 try simp only [J7, J8, J9, J6] at *
 simp_all [bif', oVar, oNum, oPlus, oSet, isSetB, bareB, Nd.op] <;> first | done | rfl | omega | (congr 1; done) | (congr 2; done) | (intros; omega) | (intros; simp_all; done)

theorem rForm_ev (x : Nd) : ∀ (st : St) (cs : List AV), Fresh st → RdN st.h.get x cs → ∃ v st', Ev Tryd.prog envD 35 [.agg cs] st v st' ∧ v = .bool (formN x) ∧ Qt st st' := by
 refine nd_rec (M := fun x => ∀ (st : St) (cs : List AV), Fresh st → RdN st.h.get x cs → ∃ v st', Ev Tryd.prog envD 35 [.agg cs] st v st' ∧ v = .bool (formN x) ∧ Qt st st') (fun o s z a l ih => ?_) x
 intro st cs hf hr
 have hr0 := hr
 obtain ⟨kk, ls, rfl, hK, hb⟩ := hr.open5
 have hln := hK.ln
 have hbn := hK.bnd
 refine J5 rfl Tryd.func35 rfl Tryd.ntmps35 rfl (by decide) (by simp) fun T hT => ?_
 have K : KnT [(0, _)] T := (.cons (hT 0) .nil)
 have M := Mem.start hf
 refine Qh <| Qa ?_
 refine Ub K M rfl (Qf rfl (Qf rfl (Qf rfl (Qf rfl (Qf hK.cell Q7))))) (by decide) fun c1 _ _ K M => ?_
 refine o1 K (Qb rfl) rfl fun _ K => Qd ?_
 show W _ _ _ _ _ _ _
 refine Qh <| Qh <| Qa <| o1 K (Qe Je rfl) rfl fun _ K => o1 K (Qg rfl (M.load (k := 0) rfl (Qk Qx rfl))) rfl fun _ K => Qd ?_
 show W _ _ _ _ _ _ _
 refine Q5 ?_
 refine w_cut (J := fun T st9 => ∃ (b : Bool), KnT [(1, .ptr c1 0 0), (2, .bool false), (4, .str o), (5, .bool b)] T ∧ Mem st.h.get st.n [] st9 [(c1, 0, [.str o, .str s, .int .i64 z, .int .i64 a, kk])] ∧ b = oneOf o [[116, 114, 117, 101], [102, 97, 108, 115, 101]]) ?_ (fun T st9 hJ => ?_)
 ·refine Qh <| Qa <| o1 K (Jo (b := [116, 114, 117, 101]) rfl rfl) rfl fun _ K => o1 K (Qb rfl) rfl fun _ K => Qd ?_
  show W _ _ _ _ _ _ _
  refine Qr (K.opd rfl) (fun h5 => ?_) (fun h5 => ?_)
  ·have hb5 := h5
   replace h5 := of_decide_eq_true h5
   refine Q3 ?_
   exact ⟨_, (.cons (K _ _ rfl) (.cons (K _ _ rfl) (.cons (K _ _ rfl) (.cons (K _ _ rfl) .nil)))), M.less (.refl _), (by simp_all [oneOf])⟩
  have hb5 := h5
  replace h5 := of_decide_eq_false h5
  refine Qa <| o1 K (Jo (b := [102, 97, 108, 115, 101]) rfl rfl) rfl fun _ K => o1 K (Qb rfl) rfl fun _ K => Qd ?_
  exact ⟨_, (.cons (K _ _ rfl) (.cons (K _ _ rfl) (.cons (K _ _ rfl) (.cons (K _ _ rfl) .nil)))), M.less (.refl _), (by simp_all [oneOf])⟩
 obtain ⟨b, K, M, hbs4⟩ := hJ
 refine Qr (K.opd rfl) (fun h5 => ?_) (fun h5 => ?_)
 ·have hb5 := h5
  refine Qh <| Qa <| o1 K (Qg rfl (M.load (k := 0) rfl (Ql Qi rfl))) rfl fun _ K => ?_
  obtain ⟨v9, st9, ev9, rfl, q9⟩ := has_ev M.fresh (hr0.mono M.rows) 0 false false
  refine o1 K (Qn rfl ev9) rfl fun _ K => ?_
  replace M := M.quiet q9
  refine o1 K (Qb rfl) rfl fun _ K => Qd ?_
  show W _ _ _ _ _ _ _
  refine Qs ?_
  refine ⟨.inr rfl, _, (Qm (Qp K rfl)), ?_⟩
  refine ⟨congrArg AV.bool ?_, M.qt⟩
  rw [Uh o s z a l]
  try generalize l.all formN = q1 at *
  try generalize l.all termN = q2 at *
  try clear M
  try clear ih
  try clear hr
  try clear hr0
  try clear hp
  try clear hn
  try clear hK
  try clear hb
  try clear hc
  try clear hm
  try clear hln
  try clear hbn
  try clear hf
  try simp only [J7, J8, J9, J6] at *
  simp_all [bif', bareB, lt3] <;> first | done | rfl | omega | (congr 1; done) | (congr 2; done) | (intros; omega) | (intros; simp_all; done)
 have hb5 := h5
 refine Qh <| Qa <| o1 K (Jo (b := [110, 111, 116]) rfl rfl) rfl fun _ K => o1 K (Qb rfl) rfl fun _ K => Qd ?_
 show W _ _ _ _ _ _ _
 refine Qr (K.opd rfl) (fun h10 => ?_) (fun h10 => ?_)
 ·have hb10 := h10
  replace h10 := of_decide_eq_true h10
  refine Qh <| Qa <| o1 K (Qg rfl (M.load (k := 0) rfl (Ql Qi rfl))) rfl fun _ K => ?_
  obtain ⟨v13, st13, ev13, rfl, q13⟩ := has_ev M.fresh (hr0.mono M.rows) 1 false false
  refine o1 K (Qn rfl ev13) rfl fun _ K => ?_
  replace M := M.quiet q13
  refine oB K (Qc rfl) rfl fun b14 _ e14 K => ?_
  cases b14
  ·refine gn K rfl rfl rfl rfl fun _ K => gn K rfl rfl rfl rfl fun _ K => o1 K (Qj rfl rfl rfl) rfl fun _ K => o1 K (Qb rfl) rfl fun _ K => Qd ?_
   show W _ _ _ _ _ _ _
   refine Qs ?_
   refine ⟨.inr rfl, _, (Qm (Qp K rfl)), ?_⟩
   refine ⟨congrArg AV.bool ?_, M.qt⟩
   rw [Uh o s z a l]
   try generalize l.all formN = q1 at *
   try generalize l.all termN = q2 at *
   try clear M
   try clear ih
   try clear hr
   try clear hr0
   try clear hp
   try clear hn
   try clear hK
   try clear hb
   try clear hc
   try clear hm
   try clear hln
   try clear hbn
   try clear hf
   try simp only [J7, J8, J9, J6] at *
   simp_all [bif', bareB, lt3] <;> first | done | rfl | omega | (congr 1; done) | (congr 2; done) | (intros; omega) | (intros; simp_all; done)
  refine og K rfl rfl (Qg rfl (M.load (k := 0) rfl (Ql Qi rfl))) rfl fun _ K => ?_
  obtain ⟨v16, st16, ev16, rfl, q16⟩ := rForms_ev M.fresh (hr0.mono M.rows) ih
  refine og K rfl rfl (Qn rfl ev16) rfl fun _ K => ?_
  replace M := M.quiet q16
  refine o1 K (Qj rfl rfl rfl) rfl fun _ K => o1 K (Qb rfl) rfl fun _ K => Qd ?_
  show W _ _ _ _ _ _ _
  refine Qs ?_
  refine ⟨.inr rfl, _, (Qm (Qp K rfl)), ?_⟩
  refine ⟨congrArg AV.bool ?_, M.qt⟩
  rw [Uh o s z a l]
  try generalize l.all formN = q1 at *
  try generalize l.all termN = q2 at *
  try clear M
  try clear ih
  try clear hr
  try clear hr0
  try clear hp
  try clear hn
  try clear hK
  try clear hb
  try clear hc
  try clear hm
  try clear hln
  try clear hbn
  try clear hf
  try simp only [J7, J8, J9, J6] at *
  simp_all [bif', bareB, lt3] <;> first | done | rfl | omega | (congr 1; done) | (congr 2; done) | (intros; omega) | (intros; simp_all; done)
 have hb10 := h10
 replace h10 := of_decide_eq_false h10
 refine w_cut (J := fun T st9 => ∃ (b : Bool), KnT [(1, .ptr c1 0 0), (2, .bool false), (4, .str o), (18, .bool b)] T ∧ Mem st.h.get st.n [] st9 [(c1, 0, [.str o, .str s, .int .i64 z, .int .i64 a, kk])] ∧ b = oneOf o [[97, 110, 100], [111, 114], [105, 109, 112], [105, 102, 102]]) ?_ (fun T st9 hJ => ?_)
 ·refine Qh <| Qa <| o1 K (Jo (b := [97, 110, 100]) rfl rfl) rfl fun _ K => o1 K (Qb rfl) rfl fun _ K => Qd ?_
  show W _ _ _ _ _ _ _
  refine Qr (K.opd rfl) (fun h18 => ?_) (fun h18 => ?_)
  ·have hb18 := h18
   replace h18 := of_decide_eq_true h18
   refine Q3 ?_
   exact ⟨_, (.cons (K _ _ rfl) (.cons (K _ _ rfl) (.cons (K _ _ rfl) (.cons (K _ _ rfl) .nil)))), M.less (.refl _), (by simp_all [oneOf])⟩
  have hb18 := h18
  replace h18 := of_decide_eq_false h18
  refine Qh <| Qa <| o1 K (Jo (b := [111, 114]) rfl rfl) rfl fun _ K => o1 K (Qb rfl) rfl fun _ K => Qd ?_
  show W _ _ _ _ _ _ _
  refine Qr (K.opd rfl) (fun h18 => ?_) (fun h18 => ?_)
  ·have hb18 := h18
   replace h18 := of_decide_eq_true h18
   refine Q3 ?_
   exact ⟨_, (.cons (K _ _ rfl) (.cons (K _ _ rfl) (.cons (K _ _ rfl) (.cons (K _ _ rfl) .nil)))), M.less (.refl _), (by simp_all [oneOf])⟩
  have hb18 := h18
  replace h18 := of_decide_eq_false h18
  refine Qh <| Qa <| o1 K (Jo (b := [105, 109, 112]) rfl rfl) rfl fun _ K => o1 K (Qb rfl) rfl fun _ K => Qd ?_
  show W _ _ _ _ _ _ _
  refine Qr (K.opd rfl) (fun h18 => ?_) (fun h18 => ?_)
  ·have hb18 := h18
   replace h18 := of_decide_eq_true h18
   refine Q3 ?_
   exact ⟨_, (.cons (K _ _ rfl) (.cons (K _ _ rfl) (.cons (K _ _ rfl) (.cons (K _ _ rfl) .nil)))), M.less (.refl _), (by simp_all [oneOf])⟩
  have hb18 := h18
  replace h18 := of_decide_eq_false h18
  refine Qa <| o1 K (Jo (b := [105, 102, 102]) rfl rfl) rfl fun _ K => o1 K (Qb rfl) rfl fun _ K => Qd ?_
  exact ⟨_, (.cons (K _ _ rfl) (.cons (K _ _ rfl) (.cons (K _ _ rfl) (.cons (K _ _ rfl) .nil)))), M.less (.refl _), (by simp_all [oneOf])⟩
 obtain ⟨b, K, M, hbs11⟩ := hJ
 refine Qr (K.opd rfl) (fun h18 => ?_) (fun h18 => ?_)
 ·have hb18 := h18
  refine Qh <| Qa <| o1 K (Qg rfl (M.load (k := 0) rfl (Ql Qi rfl))) rfl fun _ K => ?_
  obtain ⟨v24, st24, ev24, rfl, q24⟩ := has_ev M.fresh (hr0.mono M.rows) 2 false false
  refine o1 K (Qn rfl ev24) rfl fun _ K => ?_
  replace M := M.quiet q24
  refine oB K (Qc rfl) rfl fun b25 _ e25 K => ?_
  cases b25
  ·refine gn K rfl rfl rfl rfl fun _ K => gn K rfl rfl rfl rfl fun _ K => o1 K (Qj rfl rfl rfl) rfl fun _ K => o1 K (Qb rfl) rfl fun _ K => Qd ?_
   show W _ _ _ _ _ _ _
   refine Qs ?_
   refine ⟨.inr rfl, _, (Qm (Qp K rfl)), ?_⟩
   refine ⟨congrArg AV.bool ?_, M.qt⟩
   rw [Uh o s z a l]
   try generalize l.all formN = q1 at *
   try generalize l.all termN = q2 at *
   try clear M
   try clear ih
   try clear hr
   try clear hr0
   try clear hp
   try clear hn
   try clear hK
   try clear hb
   try clear hc
   try clear hm
   try clear hln
   try clear hbn
   try clear hf
   try simp only [J7, J8, J9, J6] at *
   simp_all [bif', bareB, lt3] <;> first | done | rfl | omega | (congr 1; done) | (congr 2; done) | (intros; omega) | (intros; simp_all; done)
  refine og K rfl rfl (Qg rfl (M.load (k := 0) rfl (Ql Qi rfl))) rfl fun _ K => ?_
  obtain ⟨v27, st27, ev27, rfl, q27⟩ := rForms_ev M.fresh (hr0.mono M.rows) ih
  refine og K rfl rfl (Qn rfl ev27) rfl fun _ K => ?_
  replace M := M.quiet q27
  refine o1 K (Qj rfl rfl rfl) rfl fun _ K => o1 K (Qb rfl) rfl fun _ K => Qd ?_
  show W _ _ _ _ _ _ _
  refine Qs ?_
  refine ⟨.inr rfl, _, (Qm (Qp K rfl)), ?_⟩
  refine ⟨congrArg AV.bool ?_, M.qt⟩
  rw [Uh o s z a l]
  try generalize l.all formN = q1 at *
  try generalize l.all termN = q2 at *
  try clear M
  try clear ih
  try clear hr
  try clear hr0
  try clear hp
  try clear hn
  try clear hK
  try clear hb
  try clear hc
  try clear hm
  try clear hln
  try clear hbn
  try clear hf
  try simp only [J7, J8, J9, J6] at *
  simp_all [bif', bareB, lt3] <;> first | done | rfl | omega | (congr 1; done) | (congr 2; done) | (intros; omega) | (intros; simp_all; done)
 have hb18 := h18
 refine w_cut (J := fun T st9 => ∃ (b : Bool), KnT [(1, .ptr c1 0 0), (2, .bool false), (4, .str o), (29, .bool b)] T ∧ Mem st.h.get st.n [] st9 [(c1, 0, [.str o, .str s, .int .i64 z, .int .i64 a, kk])] ∧ b = oneOf o [[101, 120], [97, 108, 108]]) ?_ (fun T st9 hJ => ?_)
 ·refine Qh <| Qa <| o1 K (Jo (b := [101, 120]) rfl rfl) rfl fun _ K => o1 K (Qb rfl) rfl fun _ K => Qd ?_
  show W _ _ _ _ _ _ _
  refine Qr (K.opd rfl) (fun h29 => ?_) (fun h29 => ?_)
  ·have hb29 := h29
   replace h29 := of_decide_eq_true h29
   refine Q3 ?_
   exact ⟨_, (.cons (K _ _ rfl) (.cons (K _ _ rfl) (.cons (K _ _ rfl) (.cons (K _ _ rfl) .nil)))), M.less (.refl _), (by simp_all [oneOf])⟩
  have hb29 := h29
  replace h29 := of_decide_eq_false h29
  refine Qa <| o1 K (Jo (b := [97, 108, 108]) rfl rfl) rfl fun _ K => o1 K (Qb rfl) rfl fun _ K => Qd ?_
  exact ⟨_, (.cons (K _ _ rfl) (.cons (K _ _ rfl) (.cons (K _ _ rfl) (.cons (K _ _ rfl) .nil)))), M.less (.refl _), (by simp_all [oneOf])⟩
 obtain ⟨b, K, M, hbs14⟩ := hJ
 refine Qr (K.opd rfl) (fun h29 => ?_) (fun h29 => ?_)
 ·have hb29 := h29
  refine Qh <| Qa <| o1 K (Qg rfl (M.load (k := 0) rfl (Ql Qi rfl))) rfl fun _ K => ?_
  obtain ⟨v33, st33, ev33, rfl, q33⟩ := has_ev M.fresh (hr0.mono M.rows) 1 true true
  refine o1 K (Qn rfl ev33) rfl fun _ K => ?_
  replace M := M.quiet q33
  refine oB K (Qc rfl) rfl fun b34 _ e34 K => ?_
  cases b34
  ·refine gn K rfl rfl rfl rfl fun _ K => gn K rfl rfl rfl rfl fun _ K => gn K rfl rfl rfl rfl fun _ K => o1 K (Qj rfl rfl rfl) rfl fun _ K => o1 K (Qc rfl) rfl fun _ K => gn K rfl rfl rfl rfl fun _ K => gn K rfl rfl rfl rfl fun _ K => gn K rfl rfl rfl rfl fun _ K => o1 K (Qj rfl rfl rfl) rfl fun _ K => ?_
   refine o1 K (Qc rfl) rfl fun _ K => gn K rfl rfl rfl rfl fun _ K => gn K rfl rfl rfl rfl fun _ K => o1 K (Qj rfl rfl rfl) rfl fun _ K => o1 K (Qb rfl) rfl fun _ K => Qd ?_
   show W _ _ _ _ _ _ _
   refine Qs ?_
   refine ⟨.inr rfl, _, (Qm (Qp K rfl)), ?_⟩
   refine ⟨congrArg AV.bool ?_, M.qt⟩
   rw [Uh o s z a l]
   try generalize l.all formN = q1 at *
   try generalize l.all termN = q2 at *
   try clear M
   try clear ih
   try clear hr
   try clear hr0
   try clear hp
   try clear hn
   try clear hK
   try clear hb
   try clear hc
   try clear hm
   try clear hln
   try clear hbn
   try clear hf
   try simp only [J7, J8, J9, J6] at *
   simp_all [bif', bareB, lt3] <;> first | done | rfl | omega | (congr 1; done) | (congr 2; done) | (intros; omega) | (intros; simp_all; done)
  refine og K rfl rfl (Qe Jp rfl) rfl fun _ K => og K rfl rfl (Qg rfl (M.load (k := 0) rfl (Qk Ju rfl))) rfl fun _ K => og K rfl rfl (os_geq rfl rfl) rfl fun _ K => o1 K (Qj rfl rfl rfl) rfl fun _ K => ?_
  refine oB K (Qc rfl) rfl fun b39 _ e39 K => ?_
  cases b39
  ·replace e39 := of_decide_eq_false e39
   refine gn K rfl rfl rfl rfl fun _ K => gn K rfl rfl rfl rfl fun _ K => gn K rfl rfl rfl rfl fun _ K => o1 K (Qj rfl rfl rfl) rfl fun _ K => o1 K (Qc rfl) rfl fun _ K => gn K rfl rfl rfl rfl fun _ K => gn K rfl rfl rfl rfl fun _ K => o1 K (Qj rfl rfl rfl) rfl fun _ K => o1 K (Qb rfl) rfl fun _ K => ?_
   refine Qd ?_
   show W _ _ _ _ _ _ _
   refine Qs ?_
   refine ⟨.inr rfl, _, (Qm (Qp K rfl)), ?_⟩
   refine ⟨congrArg AV.bool ?_, M.qt⟩
   rw [Uh o s z a l]
   try generalize l.all formN = q1 at *
   try generalize l.all termN = q2 at *
   try clear M
   try clear ih
   try clear hr
   try clear hr0
   try clear hp
   try clear hn
   try clear hK
   try clear hb
   try clear hc
   try clear hm
   try clear hln
   try clear hbn
   try clear hf
   try simp only [J7, J8, J9, J6] at *
   simp_all [bif', bareB, lt3] <;> first | done | rfl | omega | (congr 1; done) | (congr 2; done) | (intros; omega) | (intros; simp_all; done)
  replace e39 := of_decide_eq_true e39
  refine og K rfl rfl (Qe Jp rfl) rfl fun _ K => og K rfl rfl (Qg rfl (M.load (k := 0) rfl (Qk Ju rfl))) rfl fun _ K => og K rfl rfl (os_leq rfl rfl) rfl fun _ K => o1 K (Qj rfl rfl rfl) rfl fun _ K => ?_
  refine oB K (Qc rfl) rfl fun b44 _ e44 K => ?_
  cases b44
  ·replace e44 := of_decide_eq_false e44
   refine gn K rfl rfl rfl rfl fun _ K => gn K rfl rfl rfl rfl fun _ K => o1 K (Qj rfl rfl rfl) rfl fun _ K => o1 K (Qb rfl) rfl fun _ K => Qd ?_
   show W _ _ _ _ _ _ _
   refine Qs ?_
   refine ⟨.inr rfl, _, (Qm (Qp K rfl)), ?_⟩
   refine ⟨congrArg AV.bool ?_, M.qt⟩
   rw [Uh o s z a l]
   try generalize l.all formN = q1 at *
   try generalize l.all termN = q2 at *
   try clear M
   try clear ih
   try clear hr
   try clear hr0
   try clear hp
   try clear hn
   try clear hK
   try clear hb
   try clear hc
   try clear hm
   try clear hln
   try clear hbn
   try clear hf
   try simp only [J7, J8, J9, J6] at *
   simp_all [bif', bareB, lt3] <;> first | done | rfl | omega | (congr 1; done) | (congr 2; done) | (intros; omega) | (intros; simp_all; done)
  replace e44 := of_decide_eq_true e44
  refine og K rfl rfl (Qg rfl (M.load (k := 0) rfl (Ql Qi rfl))) rfl fun _ K => ?_
  obtain ⟨v46, st46, ev46, rfl, q46⟩ := rForms_ev M.fresh (hr0.mono M.rows) ih
  refine og K rfl rfl (Qn rfl ev46) rfl fun _ K => ?_
  replace M := M.quiet q46
  refine o1 K (Qj rfl rfl rfl) rfl fun _ K => o1 K (Qb rfl) rfl fun _ K => Qd ?_
  show W _ _ _ _ _ _ _
  refine Qs ?_
  refine ⟨.inr rfl, _, (Qm (Qp K rfl)), ?_⟩
  refine ⟨congrArg AV.bool ?_, M.qt⟩
  rw [Uh o s z a l]
  try generalize l.all formN = q1 at *
  try generalize l.all termN = q2 at *
  try clear M
  try clear ih
  try clear hr
  try clear hr0
  try clear hp
  try clear hn
  try clear hK
  try clear hb
  try clear hc
  try clear hm
  try clear hln
  try clear hbn
  try clear hf
  try simp only [J7, J8, J9, J6] at *
  simp_all [bif', bareB, lt3] <;> first | done | rfl | omega | (congr 1; done) | (congr 2; done) | (intros; omega) | (intros; simp_all; done)
 have hb29 := h29
 refine Qh <| Qa <| o1 K (Jo (b := [105, 115]) rfl rfl) rfl fun _ K => o1 K (Qb rfl) rfl fun _ K => Qd ?_
 show W _ _ _ _ _ _ _
 refine Qr (K.opd rfl) (fun h48 => ?_) (fun h48 => ?_)
 ·have hb48 := h48
  replace h48 := of_decide_eq_true h48
  refine Qh <| Qa <| o1 K (Qg rfl (M.load (k := 0) rfl (Ql Qi rfl))) rfl fun _ K => ?_
  obtain ⟨v51, st51, ev51, rfl, q51⟩ := has_ev M.fresh (hr0.mono M.rows) 0 true false
  refine o1 K (Qn rfl ev51) rfl fun _ K => ?_
  replace M := M.quiet q51
  refine o1 K (Qb rfl) rfl fun _ K => Qd ?_
  show W _ _ _ _ _ _ _
  refine Qs ?_
  refine ⟨.inr rfl, _, (Qm (Qp K rfl)), ?_⟩
  refine ⟨congrArg AV.bool ?_, M.qt⟩
  rw [Uh o s z a l]
  try generalize l.all formN = q1 at *
  try generalize l.all termN = q2 at *
  try clear M
  try clear ih
  try clear hr
  try clear hr0
  try clear hp
  try clear hn
  try clear hK
  try clear hb
  try clear hc
  try clear hm
  try clear hln
  try clear hbn
  try clear hf
  try simp only [J7, J8, J9, J6] at *
  simp_all [bif', bareB, lt3] <;> first | done | rfl | omega | (congr 1; done) | (congr 2; done) | (intros; omega) | (intros; simp_all; done)
 have hb48 := h48
 replace h48 := of_decide_eq_false h48
 refine w_cut (J := fun T st9 => ∃ (b : Bool), KnT [(1, .ptr c1 0 0), (2, .bool false), (4, .str o), (52, .bool b)] T ∧ Mem st.h.get st.n [] st9 [(c1, 0, [.str o, .str s, .int .i64 z, .int .i64 a, kk])] ∧ b = oneOf o [[101, 113], [110, 101], [108, 116], [108, 101], [105, 110], [110, 111, 116, 105, 110], [115, 117, 98]]) ?_ (fun T st9 hJ => ?_)
 ·refine Qh <| Qa <| o1 K (Jo (b := [101, 113]) rfl rfl) rfl fun _ K => o1 K (Qb rfl) rfl fun _ K => Qd ?_
  show W _ _ _ _ _ _ _
  refine Qr (K.opd rfl) (fun h52 => ?_) (fun h52 => ?_)
  ·have hb52 := h52
   replace h52 := of_decide_eq_true h52
   refine Q3 ?_
   exact ⟨_, (.cons (K _ _ rfl) (.cons (K _ _ rfl) (.cons (K _ _ rfl) (.cons (K _ _ rfl) .nil)))), M.less (.refl _), (by simp_all [oneOf])⟩
  have hb52 := h52
  replace h52 := of_decide_eq_false h52
  refine Qh <| Qa <| o1 K (Jo (b := [110, 101]) rfl rfl) rfl fun _ K => o1 K (Qb rfl) rfl fun _ K => Qd ?_
  show W _ _ _ _ _ _ _
  refine Qr (K.opd rfl) (fun h52 => ?_) (fun h52 => ?_)
  ·have hb52 := h52
   replace h52 := of_decide_eq_true h52
   refine Q3 ?_
   exact ⟨_, (.cons (K _ _ rfl) (.cons (K _ _ rfl) (.cons (K _ _ rfl) (.cons (K _ _ rfl) .nil)))), M.less (.refl _), (by simp_all [oneOf])⟩
  have hb52 := h52
  replace h52 := of_decide_eq_false h52
  refine Qh <| Qa <| o1 K (Jo (b := [108, 116]) rfl rfl) rfl fun _ K => o1 K (Qb rfl) rfl fun _ K => Qd ?_
  show W _ _ _ _ _ _ _
  refine Qr (K.opd rfl) (fun h52 => ?_) (fun h52 => ?_)
  ·have hb52 := h52
   replace h52 := of_decide_eq_true h52
   refine Q3 ?_
   exact ⟨_, (.cons (K _ _ rfl) (.cons (K _ _ rfl) (.cons (K _ _ rfl) (.cons (K _ _ rfl) .nil)))), M.less (.refl _), (by simp_all [oneOf])⟩
  have hb52 := h52
  replace h52 := of_decide_eq_false h52
  refine Qh <| Qa <| o1 K (Jo (b := [108, 101]) rfl rfl) rfl fun _ K => o1 K (Qb rfl) rfl fun _ K => Qd ?_
  show W _ _ _ _ _ _ _
  refine Qr (K.opd rfl) (fun h52 => ?_) (fun h52 => ?_)
  ·have hb52 := h52
   replace h52 := of_decide_eq_true h52
   refine Q3 ?_
   exact ⟨_, (.cons (K _ _ rfl) (.cons (K _ _ rfl) (.cons (K _ _ rfl) (.cons (K _ _ rfl) .nil)))), M.less (.refl _), (by simp_all [oneOf])⟩
  have hb52 := h52
  replace h52 := of_decide_eq_false h52
  refine Qh <| Qa <| o1 K (Jo (b := [105, 110]) rfl rfl) rfl fun _ K => o1 K (Qb rfl) rfl fun _ K => Qd ?_
  show W _ _ _ _ _ _ _
  refine Qr (K.opd rfl) (fun h52 => ?_) (fun h52 => ?_)
  ·have hb52 := h52
   replace h52 := of_decide_eq_true h52
   refine Q3 ?_
   exact ⟨_, (.cons (K _ _ rfl) (.cons (K _ _ rfl) (.cons (K _ _ rfl) (.cons (K _ _ rfl) .nil)))), M.less (.refl _), (by simp_all [oneOf])⟩
  have hb52 := h52
  replace h52 := of_decide_eq_false h52
  refine Qh <| Qa <| o1 K (Jo (b := [110, 111, 116, 105, 110]) rfl rfl) rfl fun _ K => o1 K (Qb rfl) rfl fun _ K => Qd ?_
  show W _ _ _ _ _ _ _
  refine Qr (K.opd rfl) (fun h52 => ?_) (fun h52 => ?_)
  ·have hb52 := h52
   replace h52 := of_decide_eq_true h52
   refine Q3 ?_
   exact ⟨_, (.cons (K _ _ rfl) (.cons (K _ _ rfl) (.cons (K _ _ rfl) (.cons (K _ _ rfl) .nil)))), M.less (.refl _), (by simp_all [oneOf])⟩
  have hb52 := h52
  replace h52 := of_decide_eq_false h52
  refine Qa <| o1 K (Jo (b := [115, 117, 98]) rfl rfl) rfl fun _ K => o1 K (Qb rfl) rfl fun _ K => Qd ?_
  exact ⟨_, (.cons (K _ _ rfl) (.cons (K _ _ rfl) (.cons (K _ _ rfl) (.cons (K _ _ rfl) .nil)))), M.less (.refl _), (by simp_all [oneOf])⟩
 obtain ⟨b, K, M, hbs24⟩ := hJ
 refine Qr (K.opd rfl) (fun h52 => ?_) (fun h52 => ?_)
 ·have hb52 := h52
  refine Qh <| Qa <| o1 K (Qg rfl (M.load (k := 0) rfl (Ql Qi rfl))) rfl fun _ K => ?_
  obtain ⟨v61, st61, ev61, rfl, q61⟩ := has_ev M.fresh (hr0.mono M.rows) 2 false false
  refine o1 K (Qn rfl ev61) rfl fun _ K => ?_
  replace M := M.quiet q61
  refine oB K (Qc rfl) rfl fun b62 _ e62 K => ?_
  cases b62
  ·refine gn K rfl rfl rfl rfl fun _ K => gn K rfl rfl rfl rfl fun _ K => o1 K (Qj rfl rfl rfl) rfl fun _ K => o1 K (Qb rfl) rfl fun _ K => Qd ?_
   show W _ _ _ _ _ _ _
   refine Qs ?_
   refine ⟨.inr rfl, _, (Qm (Qp K rfl)), ?_⟩
   refine ⟨congrArg AV.bool ?_, M.qt⟩
   rw [Uh o s z a l]
   try generalize l.all formN = q1 at *
   try generalize l.all termN = q2 at *
   try clear M
   try clear ih
   try clear hr
   try clear hr0
   try clear hp
   try clear hn
   try clear hK
   try clear hb
   try clear hc
   try clear hm
   try clear hln
   try clear hbn
   try clear hf
   try simp only [J7, J8, J9, J6] at *
   simp_all [bif', bareB, lt3] <;> first | done | rfl | omega | (congr 1; done) | (congr 2; done) | (intros; omega) | (intros; simp_all; done)
  refine og K rfl rfl (Qg rfl (M.load (k := 0) rfl (Ql Qi rfl))) rfl fun _ K => ?_
  obtain ⟨v64, st64, ev64, rfl, q64⟩ := rTerms_ev M.fresh (hr0.mono M.rows) (fun k hk st1 cs hf1 hr1 => rTerm_ev k st1 cs hf1 hr1)
  refine og K rfl rfl (Qn rfl ev64) rfl fun _ K => ?_
  replace M := M.quiet q64
  refine o1 K (Qj rfl rfl rfl) rfl fun _ K => o1 K (Qb rfl) rfl fun _ K => Qd ?_
  show W _ _ _ _ _ _ _
  refine Qs ?_
  refine ⟨.inr rfl, _, (Qm (Qp K rfl)), ?_⟩
  refine ⟨congrArg AV.bool ?_, M.qt⟩
  rw [Uh o s z a l]
  try generalize l.all formN = q1 at *
  try generalize l.all termN = q2 at *
  try clear M
  try clear ih
  try clear hr
  try clear hr0
  try clear hp
  try clear hn
  try clear hK
  try clear hb
  try clear hc
  try clear hm
  try clear hln
  try clear hbn
  try clear hf
  try simp only [J7, J8, J9, J6] at *
  simp_all [bif', bareB, lt3] <;> first | done | rfl | omega | (congr 1; done) | (congr 2; done) | (intros; omega) | (intros; simp_all; done)
 have hb52 := h52
 refine Qh <| Qa <| o1 K (Jo (b := [99, 97, 108, 108]) rfl rfl) rfl fun _ K => o1 K (Qb rfl) rfl fun _ K => Qd ?_
 show W _ _ _ _ _ _ _
 refine Qr (K.opd rfl) (fun h66 => ?_) (fun h66 => ?_)
 ·have hb66 := h66
  replace h66 := of_decide_eq_true h66
  refine Qh <| Qa <| o1 K (Qg rfl (M.load (k := 0) rfl (Ql Qi rfl))) rfl fun _ K => o1 K (Qe Qw rfl) rfl fun _ K => o1 K (Qg rfl (M.load (k := 0) rfl (Qk Qu rfl))) rfl fun _ K => o1 K (Jn Q9 rfl rfl hK.len) rfl fun _ K => ?_
  obtain ⟨v72, st72, ev72, rfl, q72⟩ := has_ev M.fresh (hr0.mono M.rows) (((l.length : Nat) : Int)) true false
  refine o1 K (Qn rfl ev72) rfl fun _ K => ?_
  replace M := M.quiet q72
  refine oB K (Qc rfl) rfl fun b73 _ e73 K => ?_
  cases b73
  ·refine gn K rfl rfl rfl rfl fun _ K => gn K rfl rfl rfl rfl fun _ K => gn K rfl rfl rfl rfl fun _ K => gn K rfl rfl rfl rfl fun _ K => o1 K (Qj rfl rfl rfl) rfl fun _ K => o1 K (Qc rfl) rfl fun _ K => gn K rfl rfl rfl rfl fun _ K => gn K rfl rfl rfl rfl fun _ K => o1 K (Qj rfl rfl rfl) rfl fun _ K => ?_
   refine o1 K (Qb rfl) rfl fun _ K => Qd ?_
   show W _ _ _ _ _ _ _
   refine Qs ?_
   refine ⟨.inr rfl, _, (Qm (Qp K rfl)), ?_⟩
   refine ⟨congrArg AV.bool ?_, M.qt⟩
   rw [Uh o s z a l]
   try generalize l.all formN = q1 at *
   try generalize l.all termN = q2 at *
   try clear M
   try clear ih
   try clear hr
   try clear hr0
   try clear hp
   try clear hn
   try clear hK
   try clear hb
   try clear hc
   try clear hm
   try clear hln
   try clear hbn
   try clear hf
   try simp only [J7, J8, J9, J6] at *
   simp_all [bif', bareB, lt3] <;> first | done | rfl | omega | (congr 1; done) | (congr 2; done) | (intros; omega) | (intros; simp_all; done)
  refine og K rfl rfl (Qe Qw rfl) rfl fun _ K => og K rfl rfl (Qg rfl (M.load (k := 0) rfl (Qk Qu rfl))) rfl fun _ K => og K rfl rfl (Jn Q9 rfl rfl hK.len) rfl fun _ K => og K rfl rfl (os_leq rfl rfl) rfl fun _ K => o1 K (Qj rfl rfl rfl) rfl fun _ K => ?_
  refine oB K (Qc rfl) rfl fun b79 _ e79 K => ?_
  cases b79
  ·replace e79 := of_decide_eq_false e79
   refine gn K rfl rfl rfl rfl fun _ K => gn K rfl rfl rfl rfl fun _ K => o1 K (Qj rfl rfl rfl) rfl fun _ K => o1 K (Qb rfl) rfl fun _ K => Qd ?_
   show W _ _ _ _ _ _ _
   refine Qs ?_
   refine ⟨.inr rfl, _, (Qm (Qp K rfl)), ?_⟩
   refine ⟨congrArg AV.bool ?_, M.qt⟩
   rw [Uh o s z a l]
   try generalize l.all formN = q1 at *
   try generalize l.all termN = q2 at *
   try clear M
   try clear ih
   try clear hr
   try clear hr0
   try clear hp
   try clear hn
   try clear hK
   try clear hb
   try clear hc
   try clear hm
   try clear hln
   try clear hbn
   try clear hf
   try simp only [J7, J8, J9, J6] at *
   simp_all [bif', bareB, lt3] <;> first | done | rfl | omega | (congr 1; done) | (congr 2; done) | (intros; omega) | (intros; simp_all; done)
  replace e79 := of_decide_eq_true e79
  refine og K rfl rfl (Qg rfl (M.load (k := 0) rfl (Ql Qi rfl))) rfl fun _ K => ?_
  obtain ⟨v81, st81, ev81, rfl, q81⟩ := rTerms_ev M.fresh (hr0.mono M.rows) (fun k hk st1 cs hf1 hr1 => rTerm_ev k st1 cs hf1 hr1)
  refine og K rfl rfl (Qn rfl ev81) rfl fun _ K => ?_
  replace M := M.quiet q81
  refine o1 K (Qj rfl rfl rfl) rfl fun _ K => o1 K (Qb rfl) rfl fun _ K => Qd ?_
  show W _ _ _ _ _ _ _
  refine Qs ?_
  refine ⟨.inr rfl, _, (Qm (Qp K rfl)), ?_⟩
  refine ⟨congrArg AV.bool ?_, M.qt⟩
  rw [Uh o s z a l]
  try generalize l.all formN = q1 at *
  try generalize l.all termN = q2 at *
  try clear M
  try clear ih
  try clear hr
  try clear hr0
  try clear hp
  try clear hn
  try clear hK
  try clear hb
  try clear hc
  try clear hm
  try clear hln
  try clear hbn
  try clear hf
  try simp only [J7, J8, J9, J6] at *
  simp_all [bif', bareB, lt3] <;> first | done | rfl | omega | (congr 1; done) | (congr 2; done) | (intros; omega) | (intros; simp_all; done)
 have hb66 := h66
 replace h66 := of_decide_eq_false h66
 refine Q3 ?_
 show W _ _ _ _ _ _ _
 refine Qh <| Qa <| o1 K (Qb rfl) rfl fun _ K => Qd ?_
 show W _ _ _ _ _ _ _
 refine Qs ?_
 refine ⟨.inr rfl, _, (Qm (Qp K rfl)), ?_⟩
 refine ⟨congrArg AV.bool ?_, M.qt⟩
 rw [Uh o s z a l]
 try generalize l.all formN = q1 at *
 try generalize l.all termN = q2 at *
 try clear M
 try clear ih
 try clear hr
 try clear hr0
 try clear hp
 try clear hn
 try clear hK
 try clear hb
 try clear hc
 try clear hm
 try clear hln
 try clear hbn
 try clear hf
 try simp only [J7, J8, J9, J6] at *
 simp_all [bif', bareB, lt3] <;> first | done | rfl | omega | (congr 1; done) | (congr 2; done) | (intros; omega) | (intros; simp_all; done)
end Go.Proofs.YtmjnbdkjekdkgaaDoor
