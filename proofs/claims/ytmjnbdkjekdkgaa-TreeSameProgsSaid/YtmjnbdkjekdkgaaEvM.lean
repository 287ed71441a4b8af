/-
  A reckoner for closed calls: a region that draws its order, in whatever order it goes.
-/
import Derived.Test.YtmjnbdkjekdkgaaEvL
namespace Go.Proofs.Ytmjnbdkjekdkgaa
open Go
set_option linter.unusedVariables false
set_option linter.unusedSimpArgs false

/-! Memory cut down, and joined again. -/
def plCut (h : Hp) (p : Pls) : Pls := fun c m => match h c with
  | some _ => p c m
  | none => none
theorem plCut_some {h : Hp} {p : Pls} {c m : Nat} {x : Pl} (hx : plCut h p c m = some x) : (∃ C, h c = some C) ∧ p c m = some x := by
  unfold plCut at hx
  split at hx
  · rename_i C hC; exact ⟨⟨C, hC⟩, hx⟩
  · cases hx
theorem plCut_in {h : Hp} {p : Pls} {c m : Nat} {C : Cls} (hc : h c = some C) : plCut h p c m = p c m := by unfold plCut; rw [hc]
theorem HR.cut {w0 : World} {p : Pls} {g h : Hp} {w : World} (H : HR w0 p g w) (hsub : ∀ c C, h c = some C → g c = some C) (hwf : HWf h) : HR w0 (plCut h p) h w := by
  have hcov : Cov (plCut h p) h := fun c C hc m hm => by
    obtain ⟨x, hx⟩ := H.cov c C (hsub c C hc) m hm
    exact ⟨x, by rw [plCut_in hc]; exact hx⟩
  have hle : Pls.le (plCut h p) p := fun c m x hx => (plCut_some hx).2
  refine ⟨H.os, H.tape, H.output, H.size, H.old, fun c m x hx => ?_, fun c m x hx => H.lt c m x (plCut_some hx).2, fun c m x c' m' x' hx hx' hb => H.apart c m x c' m' x' (plCut_some hx).2 (plCut_some hx').2 hb, fun c C hc => ?_⟩
  · obtain ⟨⟨C, hC⟩, hp⟩ := plCut_some hx
    obtain ⟨C', hC', hm⟩ := H.dom c m x hp
    rw [hsub c C hC] at hC'
    injection hC' with hC'
    subst hC'
    exact ⟨C, hC, hm⟩
  · have := H.cls c C (hsub c C hc)
    cases C with
    | row ro ms =>
      refine ⟨fun m e vs cs hm => ?_, fun m e vs cs m' e' vs' cs' q q' h1 h2 h3 h4 h5 => this.same m e vs cs m' e' vs' cs' q q' h1 h2 (plCut_some h3).2 (plCut_some h4).2 h5⟩
      obtain ⟨q, arr, el, h1, h2, h3, h4, h5, h6⟩ := this.mem m e vs cs hm
      refine ⟨q, arr, el, by rw [plCut_in hc]; exact h1, h2, h3, h4, h5, fun l hl => ?_⟩
      obtain ⟨k1, k2⟩ := h6 l hl
      refine ⟨k1, fun j v hj => ?_⟩
      obtain ⟨j1, j2, j3⟩ := k2 j v hj
      subst hl
      have hv := (hwf c ro ms m e vs l hc hm).get hj
      exact ⟨by rw [← conc_le hcov hle v hv]; exact j1, hv, j3⟩
    | iter s r pos =>
      obtain ⟨q, hq, hrest⟩ := this
      exact ⟨q, by rw [plCut_in hc]; exact hq, hrest⟩
    | map es k => exact this.elim
def hpJoin (h1 g : Hp) : Hp := fun c => match h1 c with
  | some C => some C
  | none => g c
def plJoin (h1 : Hp) (p1 p : Pls) : Pls := fun c m => match h1 c with
  | some _ => p1 c m
  | none => p c m
theorem hpJoin_in {h1 g : Hp} {c : Nat} {C : Cls} (h : h1 c = some C) : hpJoin h1 g c = some C := by unfold hpJoin; rw [h]
theorem hpJoin_out {h1 g : Hp} {c : Nat} (h : h1 c = none) : hpJoin h1 g c = g c := by unfold hpJoin; rw [h]
theorem plJoin_in {h1 : Hp} {p1 p : Pls} {c m : Nat} {C : Cls} (h : h1 c = some C) : plJoin h1 p1 p c m = p1 c m := by unfold plJoin; rw [h]
theorem plJoin_out {h1 : Hp} {p1 p : Pls} {c m : Nat} (h : h1 c = none) : plJoin h1 p1 p c m = p c m := by unfold plJoin; rw [h]
theorem join_grow {g h h1 : Hp} (hsub : ∀ c C, h c = some C → g c = some C) (hgr : Grow h h1) (hout : ∀ c, h c = none → (∃ C, g c = some C) → h1 c = none) : Grow g (hpJoin h1 g) := by
  intro c C hc
  cases h1c : h1 c with
  | none => exact ⟨C, by rw [hpJoin_out h1c]; exact hc, List.prefix_refl _⟩
  | some C1 =>
    cases hhc : h c with
    | none => rw [hout c hhc ⟨C, hc⟩] at h1c; cases h1c
    | some C0 =>
      have := hsub c C0 hhc
      rw [hc] at this
      injection this with this
      subst this
      obtain ⟨C2, h2, h3⟩ := hgr c C hhc
      rw [h1c] at h2
      injection h2 with h2
      subst h2
      exact ⟨C1, hpJoin_in h1c, h3⟩
theorem HR.join {w0 : World} {p p1 : Pls} {g h h1 : Hp} {w w1 : World} (H : HR w0 p g w) (hsub : ∀ c C, h c = some C → g c = some C) (hs : Step w0 (plCut h p) w p1 h1 w1) (hgr : Grow h h1) (hout : ∀ c, h c = none → (∃ C, g c = some C) → h1 c = none) :
    Step w0 p w (plJoin h1 p1 p) (hpJoin h1 g) w1 := by
  have back : ∀ c C1, h1 c = some C1 → (∃ C, g c = some C) → ∃ C, h c = some C := fun c C1 hc hg => by
    cases hhc : h c with
    | none => rw [hout c hhc hg] at hc; cases hc
    | some C => exact ⟨C, rfl⟩
  have hle : Pls.le p (plJoin h1 p1 p) := fun c m x hx => by
    cases h1c : h1 c with
    | none => rw [plJoin_out h1c]; exact hx
    | some C1 =>
      obtain ⟨C, hC, _⟩ := H.dom c m x hx
      obtain ⟨C0, hC0⟩ := back c C1 h1c ⟨C, hC⟩
      rw [plJoin_in h1c]
      exact hs.le c m x (by rw [plCut_in hC0]; exact hx)
  have hgj := join_grow hsub hgr hout
  have hnone : ∀ c, h1 c = none → h c = none := fun c hc => by
    cases hhc : h c with
    | none => rfl
    | some C => obtain ⟨C2, h2, _⟩ := hgr c C hhc; rw [hc] at h2; cases h2
  have mixed : ∀ c C1 m x c' m' x', h1 c = some C1 → h1 c' = none → p1 c m = some x → p c' m' = some x' → x.b = x'.b → False := by
    intro c C1 m x c' m' x' hc hc' hx hx' hb
    cases hk : plCut h p c m with
    | some y =>
      have := hs.le c m y hk
      rw [hx] at this
      injection this with this
      subst this
      have := H.apart c m x c' m' x' (plCut_some hk).2 hx' hb
      subst this
      rw [hc] at hc'
      cases hc'
    | none =>
      rcases hs.new c m x hx hk with h2 | ⟨m0, x0, h2, h3⟩
      · have := H.lt c' m' x' hx'; omega
      · have := H.apart c m0 x0 c' m' x' (plCut_some h2).2 hx' (h3.trans hb)
        subst this
        rw [hc] at hc'
        cases hc'
  refine ⟨hle, ⟨hs.hr.os, hs.hr.tape, hs.hr.output, hs.hr.size, hs.hr.old, ?_, ?_, ?_, ?_⟩, ⟨hs.fr.size, fun b hb hn => hs.fr.keep b hb fun c m x hx => hn c m x (plCut_some hx).2⟩, ?_⟩
  · intro c m x hx
    cases h1c : h1 c with
    | none =>
      rw [plJoin_out h1c] at hx
      obtain ⟨C, hC, hm⟩ := H.dom c m x hx
      exact ⟨C, by rw [hpJoin_out h1c]; exact hC, hm⟩
    | some C1 =>
      rw [plJoin_in h1c] at hx
      obtain ⟨C, hC, hm⟩ := hs.hr.dom c m x hx
      exact ⟨C, by rw [hpJoin_in hC], hm⟩
  · intro c m x hx
    cases h1c : h1 c with
    | none => rw [plJoin_out h1c] at hx; exact Nat.lt_of_lt_of_le (H.lt c m x hx) hs.fr.size
    | some C1 => rw [plJoin_in h1c] at hx; exact hs.hr.lt c m x hx
  · intro c m x c' m' x' hx hx' hb
    cases h1c : h1 c with
    | none =>
      rw [plJoin_out h1c] at hx
      cases h1c' : h1 c' with
      | none => rw [plJoin_out h1c'] at hx'; exact H.apart c m x c' m' x' hx hx' hb
      | some C1 => rw [plJoin_in h1c'] at hx'; exact absurd (mixed c' C1 m' x' c m x h1c' h1c hx' hx hb.symm) id
    | some C1 =>
      rw [plJoin_in h1c] at hx
      cases h1c' : h1 c' with
      | none => rw [plJoin_out h1c'] at hx'; exact absurd (mixed c C1 m x c' m' x' h1c h1c' hx hx' hb) id
      | some C2 => rw [plJoin_in h1c'] at hx'; exact hs.hr.apart c m x c' m' x' hx hx' hb
  · intro c C hC
    cases h1c : h1 c with
    | none =>
      rw [hpJoin_out h1c] at hC
      refine (H.cls c C hC).keep H.cov hle hgj (fun m x hx => by rw [plJoin_out h1c] at hx; exact hx) fun m x hx => ?_
      refine hs.fr.keep x.b (H.lt c m x hx) fun c' m' x' hx' hb => ?_
      obtain ⟨⟨C', hC'⟩, hp⟩ := plCut_some hx'
      have := H.apart c' m' x' c m x hp hx hb
      subst this
      rw [hnone c' h1c] at hC'
      cases hC'
    | some C1 =>
      rw [hpJoin_in h1c] at hC
      injection hC with hC
      subst hC
      refine (hs.hr.cls c C1 h1c).keep hs.hr.cov (fun c' m x hx => ?_) (fun c' C' hc' => ⟨C', hpJoin_in hc', List.prefix_refl _⟩) (fun m x hx => by rw [plJoin_in h1c] at hx; exact hx) fun _ _ _ => rfl
      obtain ⟨C2, hC2, _⟩ := hs.hr.dom c' m x hx
      rw [plJoin_in hC2]; exact hx
  · intro c m x hx hn
    cases h1c : h1 c with
    | none => rw [plJoin_out h1c] at hx; rw [hn] at hx; cases hx
    | some C1 =>
      rw [plJoin_in h1c] at hx
      have hk : plCut h p c m = none := by
        cases hk : plCut h p c m with
        | none => rfl
        | some y => rw [(plCut_some hk).2] at hn; cases hn
      rcases hs.new c m x hx hk with h2 | ⟨m0, x0, h2, h3⟩
      · exact .inl h2
      · exact .inr ⟨m0, x0, (plCut_some h2).2, h3⟩

/-! Operands and what is looked at. -/
theorem looks_tmp {ops : List Oper} {o : Oper} {t : Nat} (h : Operand.tmp t ∈ o.op.operands) : t ∈ looksF ops o := by
  unfold looksF
  rw [appL_eq]
  refine List.mem_append_left _ ?_
  have h : Operand.tmp t ∈ o.op.operands.toList := by simpa using h
  generalize o.op.operands.toList = l at h
  induction l with
  | nil => cases h
  | cons x l ih =>
    rcases List.mem_cons.1 h with rfl | h
    · exact List.mem_cons_self
    · have := ih h
      cases x with
      | tmp u => exact List.mem_cons_of_mem _ this
      | _ => exact this
theorem looks_guard {ops : List Oper} {o : Oper} {g : Nat × Bool} {t : Nat} (hg : o.guard = some g) (ht : dstOf ops g.1 = some t) : t ∈ looksF ops o := by
  unfold looksF
  rw [appL_eq]
  refine List.mem_append_right _ ?_
  rw [hg]
  simp only
  rw [ht]
  exact List.mem_singleton_self t
theorem opF_aop {P : Program} {R : Operand → Option AV} {call : CallF} {o : Oper} {st : St} (h : kindA P o.op ≠ 3) : opF P R call o st = aop P R o.op st := by
  unfold opF
  split
  · rename_i c hop
    split
    · rename_i f hcf
      rw [hop] at h
      simp only [kindA, hcf] at h
      exact absurd rfl h
    · rfl
  · rfl
open Classical in
/-- Only what stands among the operands. -/
noncomputable def only (o : Oper) (R : Operand → Option AV) : Operand → Option AV := fun x => if x ∈ o.op.operands then R x else none
theorem only_in {o : Oper} {R : Operand → Option AV} {x : Operand} (h : x ∈ o.op.operands) : only o R x = R x := by unfold only; rw [if_pos h]
theorem only_some {o : Oper} {R : Operand → Option AV} {x : Operand} {v : AV} (h : only o R x = some v) : x ∈ o.op.operands ∧ R x = some v := by
  unfold only at h
  split at h
  · exact ⟨by assumption, h⟩
  · cases h

/-! A count of what is listed. -/
theorem count_set {l : Array Bool} {i : Nat} (h : l.getD i true = false) : (l.setIfInBounds i true).toList.count true = l.toList.count true + 1 := by
  have hi : i < l.size := by
    rcases Nat.lt_or_ge i l.size with h' | h'
    · exact h'
    · simp [Array.getD_eq_getD_getElem?, Array.getElem?_eq_none h'] at h
  have hv : l[i] = false := by simpa [Array.getD_eq_getD_getElem?, hi] using h
  rw [Array.toList_setIfInBounds, List.count_set (by simpa using hi)]
  simp [hv]

end Go.Proofs.Ytmjnbdkjekdkgaa
