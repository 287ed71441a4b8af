/-
  Size, Depth, IsTerm, IsFormula: the program's answer, the reference's. TreeIs.
-/
import Derived.Test.YtmjnbdkjekdkgaaDoorFbTrC
namespace Go.Proofs.YtmjnbdkjekdkgaaDoor
open Go Go.RowKit
set_option linter.unusedVariables false
set_option linter.unusedSimpArgs false
set_option maxRecDepth 100000

/-- Small enough. -/
def smallB (x : Nd) (m : Int) : Bool := decide (min ((szN x : Nat) : Int) 2001 ≤ m) && decide (min ((dpN x : Nat) : Int) 31 ≤ 30)
theorem eqOk_str (x : List Nat) : eqOk (.str x) = true := rfl
theorem eqOk_int (k : IntKind) (x : Int) : eqOk (.int k x) = true := rfl
theorem eqOk_bool (b : Bool) : eqOk (.bool b) = true := rfl
theorem rSize_ev {o s : List Nat} {z a : Int} {l : List Nd} {st : St} {cs : List AV} (hf : Fresh st) (hr : RdN st.h.get (.mk o s z a l) cs)  : ∃ v st', Ev Tryd.prog envD 16 [.agg cs] st v st' ∧ v = .int .i64 (min ((szN (.mk o s z a l) : Nat) : Int) 2001) ∧ Qt st st' := by
 have hr0 := hr
 obtain ⟨kk, ls, rfl, hK, hb⟩ := hr.open5
 have hln := hK.ln
 have hbn := hK.bnd
 refine J5 rfl Tryd.func16 rfl Tryd.ntmps16 rfl (by decide) (by simp) fun T hT => ?_
 have K : KnT [(0, _)] T := (.cons (hT 0) .nil)
 have M := Mem.start hf
 refine Qh <| Qa ?_
 refine Ub K M rfl (Qf rfl (Qf rfl (Qf rfl (Qf rfl (Qf hK.cell Q7))))) (by decide) fun c1 _ _ K M => ?_
 refine o1 K (Qb rfl) rfl fun _ K => Qd ?_
 show W _ _ _ _ _ _ _
 refine Qh <| Qa <| o1 K (Qg rfl (M.load (k := 0) rfl (Ql Qi rfl))) rfl fun _ K => ?_
 obtain ⟨v4, st4, ev4, rfl, q4⟩ := count2_ev _ 2001 _ _ M.fresh (hr0.mono M.rows) (by decide) (by decide)
 refine o1 K (Qn rfl ev4) rfl fun _ K => ?_
 replace M := M.quiet q4
 refine o1 K (Qb rfl) rfl fun _ K => Qd ?_
 show W _ _ _ _ _ _ _
 refine Qs ?_
 refine ⟨.inr rfl, _, (Qm (Qp K rfl)), ?_⟩
 exact ⟨rfl, M.qt⟩

theorem rDepth_ev {o s : List Nat} {z a : Int} {l : List Nd} {st : St} {cs : List AV} (hf : Fresh st) (hr : RdN st.h.get (.mk o s z a l) cs)  : ∃ v st', Ev Tryd.prog envD 18 [.agg cs] st v st' ∧ v = .int .i64 (min ((dpN (.mk o s z a l) : Nat) : Int) 31) ∧ Qt st st' := by
 have hr0 := hr
 obtain ⟨kk, ls, rfl, hK, hb⟩ := hr.open5
 have hln := hK.ln
 have hbn := hK.bnd
 refine J5 rfl Tryd.func18 rfl Tryd.ntmps18 rfl (by decide) (by simp) fun T hT => ?_
 have K : KnT [(0, _)] T := (.cons (hT 0) .nil)
 have M := Mem.start hf
 refine Qh <| Qa ?_
 refine Ub K M rfl (Qf rfl (Qf rfl (Qf rfl (Qf rfl (Qf hK.cell Q7))))) (by decide) fun c1 _ _ K M => ?_
 refine o1 K (Qb rfl) rfl fun _ K => Qd ?_
 show W _ _ _ _ _ _ _
 refine Qh <| Qa <| o1 K (Qg rfl (M.load (k := 0) rfl (Ql Qi rfl))) rfl fun _ K => ?_
 obtain ⟨v4, st4, ev4, rfl, q4⟩ := deep2_ev _ 31 _ _ M.fresh (hr0.mono M.rows) (by decide) (by decide)
 refine o1 K (Qn rfl ev4) rfl fun _ K => ?_
 replace M := M.quiet q4
 refine o1 K (Qb rfl) rfl fun _ K => Qd ?_
 show W _ _ _ _ _ _ _
 refine Qs ?_
 refine ⟨.inr rfl, _, (Qm (Qp K rfl)), ?_⟩
 exact ⟨rfl, M.qt⟩

theorem small_ev {o s : List Nat} {z a : Int} {l : List Nd} {st : St} {cs : List AV} (hf : Fresh st) (hr : RdN st.h.get (.mk o s z a l) cs)  : ∃ v st', Ev Tryd.prog envD 34 [.agg cs] st v st' ∧ v = .bool (smallB (.mk o s z a l) 2000) ∧ Qt st st' := by
 have hr0 := hr
 obtain ⟨kk, ls, rfl, hK, hb⟩ := hr.open5
 have hln := hK.ln
 have hbn := hK.bnd
 refine J5 rfl Tryd.func34 rfl Tryd.ntmps34 rfl (by decide) (by simp) fun T hT => ?_
 have K : KnT [(0, _)] T := (.cons (hT 0) .nil)
 have M := Mem.start hf
 refine Qh <| Qa ?_
 refine Ub K M rfl (Qf rfl (Qf rfl (Qf rfl (Qf rfl (Qf hK.cell Q7))))) (by decide) fun c1 _ _ K M => ?_
 refine o1 K (Qb rfl) rfl fun _ K => Qd ?_
 show W _ _ _ _ _ _ _
 refine Qh <| Qa <| o1 K (Qg rfl (M.load (k := 0) rfl (Ql Qi rfl))) rfl fun _ K => ?_
 obtain ⟨v4, st4, ev4, rfl, q4⟩ := rDepth_ev M.fresh (hr0.mono M.rows)
 refine o1 K (Qn rfl ev4) rfl fun _ K => ?_
 replace M := M.quiet q4
 refine o1 K (os_leq rfl rfl) rfl fun _ K => ?_
 refine oB K (Qc rfl) rfl fun b6 _ e6 K => ?_
 cases b6
 ·replace e6 := of_decide_eq_false e6
  refine gn K rfl rfl rfl rfl fun _ K => gn K rfl rfl rfl rfl fun _ K => gn K rfl rfl rfl rfl fun _ K => o1 K (Qj rfl rfl rfl) rfl fun _ K => o1 K (Qb rfl) rfl fun _ K => Qd ?_
  show W _ _ _ _ _ _ _
  refine Qs ?_
  refine ⟨.inr rfl, _, (Qm (Qp K rfl)), ?_⟩
  refine ⟨congrArg AV.bool ?_, M.qt⟩
  rw [smallB]
  simp_all <;> (intros; omega)
 replace e6 := of_decide_eq_true e6
 refine og K rfl rfl (Qg rfl (M.load (k := 0) rfl (Ql Qi rfl))) rfl fun _ K => ?_
 obtain ⟨v8, st8, ev8, rfl, q8⟩ := rSize_ev M.fresh (hr0.mono M.rows)
 refine og K rfl rfl (Qn rfl ev8) rfl fun _ K => ?_
 replace M := M.quiet q8
 refine og K rfl rfl (os_leq rfl rfl) rfl fun _ K => o1 K (Qj rfl rfl rfl) rfl fun _ K => o1 K (Qb rfl) rfl fun _ K => Qd ?_
 show W _ _ _ _ _ _ _
 refine Qs ?_
 refine ⟨.inr rfl, _, (Qm (Qp K rfl)), ?_⟩
 refine ⟨congrArg AV.bool ?_, M.qt⟩
 rw [smallB]
 simp_all <;> (intros; omega)

theorem rIsTerm_ev {o s : List Nat} {z a : Int} {l : List Nd} {st : St} {cs : List AV} (hf : Fresh st) (hr : RdN st.h.get (.mk o s z a l) cs)  : ∃ v st', Ev Tryd.prog envD 14 [.agg cs] st v st' ∧ v = .bool (smallB (.mk o s z a l) 2000 && termN (.mk o s z a l)) ∧ Qt st st' := by
 have hr0 := hr
 obtain ⟨kk, ls, rfl, hK, hb⟩ := hr.open5
 have hln := hK.ln
 have hbn := hK.bnd
 refine J5 rfl Tryd.func14 rfl Tryd.ntmps14 rfl (by decide) (by simp) fun T hT => ?_
 have K : KnT [(0, _)] T := (.cons (hT 0) .nil)
 have M := Mem.start hf
 refine Qh <| Qa ?_
 refine Ub K M rfl (Qf rfl (Qf rfl (Qf rfl (Qf rfl (Qf hK.cell Q7))))) (by decide) fun c1 _ _ K M => ?_
 refine o1 K (Qb rfl) rfl fun _ K => Qd ?_
 show W _ _ _ _ _ _ _
 refine Qh <| Qa <| o1 K (Qg rfl (M.load (k := 0) rfl (Ql Qi rfl))) rfl fun _ K => ?_
 obtain ⟨v4, st4, ev4, rfl, q4⟩ := small_ev M.fresh (hr0.mono M.rows)
 refine o1 K (Qn rfl ev4) rfl fun _ K => ?_
 replace M := M.quiet q4
 refine oB K (Qc rfl) rfl fun b5 _ e5 K => ?_
 cases b5
 ·refine gn K rfl rfl rfl rfl fun _ K => gn K rfl rfl rfl rfl fun _ K => o1 K (Qj rfl rfl rfl) rfl fun _ K => o1 K (Qb rfl) rfl fun _ K => Qd ?_
  show W _ _ _ _ _ _ _
  refine Qs ?_
  refine ⟨.inr rfl, _, (Qm (Qp K rfl)), ?_⟩
  refine ⟨congrArg AV.bool ?_, M.qt⟩
  simp_all
 refine og K rfl rfl (Qg rfl (M.load (k := 0) rfl (Ql Qi rfl))) rfl fun _ K => ?_
 obtain ⟨v7, st7, ev7, rfl, q7⟩ := rTerm_ev _ _ _ M.fresh (hr0.mono M.rows)
 refine og K rfl rfl (Qn rfl ev7) rfl fun _ K => ?_
 replace M := M.quiet q7
 refine o1 K (Qj rfl rfl rfl) rfl fun _ K => o1 K (Qb rfl) rfl fun _ K => Qd ?_
 show W _ _ _ _ _ _ _
 refine Qs ?_
 refine ⟨.inr rfl, _, (Qm (Qp K rfl)), ?_⟩
 refine ⟨congrArg AV.bool ?_, M.qt⟩
 simp_all

theorem rIsFormula_ev {o s : List Nat} {z a : Int} {l : List Nd} {st : St} {cs : List AV} (hf : Fresh st) (hr : RdN st.h.get (.mk o s z a l) cs)  : ∃ v st', Ev Tryd.prog envD 12 [.agg cs] st v st' ∧ v = .bool (smallB (.mk o s z a l) 2000 && formN (.mk o s z a l)) ∧ Qt st st' := by
 have hr0 := hr
 obtain ⟨kk, ls, rfl, hK, hb⟩ := hr.open5
 have hln := hK.ln
 have hbn := hK.bnd
 refine J5 rfl Tryd.func12 rfl Tryd.ntmps12 rfl (by decide) (by simp) fun T hT => ?_
 have K : KnT [(0, _)] T := (.cons (hT 0) .nil)
 have M := Mem.start hf
 refine Qh <| Qa ?_
 refine Ub K M rfl (Qf rfl (Qf rfl (Qf rfl (Qf rfl (Qf hK.cell Q7))))) (by decide) fun c1 _ _ K M => ?_
 refine o1 K (Qb rfl) rfl fun _ K => Qd ?_
 show W _ _ _ _ _ _ _
 refine Qh <| Qa <| o1 K (Qg rfl (M.load (k := 0) rfl (Ql Qi rfl))) rfl fun _ K => ?_
 obtain ⟨v4, st4, ev4, rfl, q4⟩ := small_ev M.fresh (hr0.mono M.rows)
 refine o1 K (Qn rfl ev4) rfl fun _ K => ?_
 replace M := M.quiet q4
 refine oB K (Qc rfl) rfl fun b5 _ e5 K => ?_
 cases b5
 ·refine gn K rfl rfl rfl rfl fun _ K => gn K rfl rfl rfl rfl fun _ K => o1 K (Qj rfl rfl rfl) rfl fun _ K => o1 K (Qb rfl) rfl fun _ K => Qd ?_
  show W _ _ _ _ _ _ _
  refine Qs ?_
  refine ⟨.inr rfl, _, (Qm (Qp K rfl)), ?_⟩
  refine ⟨congrArg AV.bool ?_, M.qt⟩
  simp_all
 refine og K rfl rfl (Qg rfl (M.load (k := 0) rfl (Ql Qi rfl))) rfl fun _ K => ?_
 obtain ⟨v7, st7, ev7, rfl, q7⟩ := rForm_ev _ _ _ M.fresh (hr0.mono M.rows)
 refine og K rfl rfl (Qn rfl ev7) rfl fun _ K => ?_
 replace M := M.quiet q7
 refine o1 K (Qj rfl rfl rfl) rfl fun _ K => o1 K (Qb rfl) rfl fun _ K => Qd ?_
 show W _ _ _ _ _ _ _
 refine Qs ?_
 refine ⟨.inr rfl, _, (Qm (Qp K rfl)), ?_⟩
 refine ⟨congrArg AV.bool ?_, M.qt⟩
 simp_all

end Go.Proofs.YtmjnbdkjekdkgaaDoor
