/-
  Terms: the program's answer, the reference's.
-/
import Derived.Test.YtmjnbdkjekdkgaaDoorFbTrA
import Derived.Test.YtmjnbdkjekdkgaaDoorFbTyf
namespace Go.Proofs.YtmjnbdkjekdkgaaDoor
open Go Go.RowKit
set_option linter.unusedVariables false
set_option linter.unusedSimpArgs false
set_option maxRecDepth 100000

/-- Where the first one is of which this holds. -/
def idxA {α : Type} (p : α → Bool) : List α → Nat → Int
  | [], _ => -1
  | k :: l, i => if p k then (i : Int) else idxA p l (i + 1)
theorem idxA_step {α : Type} {p : α → Bool} {l : List α} {i : Nat} {k : α} (h : l[i]? = some k) : idxA p (l.drop i) i = if p k then (i : Int) else idxA p (l.drop (i + 1)) (i + 1) := by
 obtain ⟨h1, h2⟩ := List.getElem?_eq_some_iff.1 h
 rw [List.drop_eq_getElem_cons h1, idxA, h2]
theorem idxA_any {α : Type} (p : α → Bool) : ∀ (l : List α) (i : Nat), decide (0 ≤ idxA p l i) = l.any p := by
 intro l
 induction l with
 | nil => intro i; rfl
 | cons k l ih =>
  intro i
  rw [idxA, List.any_cons]
  cases hp : p k with
  | true => rw [if_pos rfl]; simp
  | false => rw [if_neg (by decide), ih]; rfl
theorem one_kid {l : List Nd} {k : Nd} (h : ((l.length : Nat) : Int) = 1) (hi : l[0]? = some k) : l = [k] := by
 match l, h, hi with
 | [a], _, hi => injection hi with hi; rw [hi]
 | [], h, _ => simp at h
 | a :: b :: l, h, _ => exact absurd h (by simp only [List.length_cons]; omega)
def hasB (name : List Nat) (n : Int) (kids : List Nd) (m : Int) (nm nb : Bool) : Bool := decide (((kids.length : Nat) : Int) = m) && ((nm || decide (name = [])) && ((nb || decide (n = 0)) && (!nm || nameB name)))
theorem Q8 {s : List Nat} {n : Int} {l : List Nd} {m : Int} {nm nb : Bool} (h : hasB s n l m nm nb = true) : ((l.length : Nat) : Int) = m := by
 simp [hasB] at h; exact h.1

theorem rSet_ev {o s : List Nat} {z a : Int} {l : List Nd} {st : St} {cs : List AV} (hf : Fresh st) (hr : RdN st.h.get (.mk o s z a l) cs)  : ∃ v st', Ev Tryd.prog envD 61 [.agg cs] st v st' ∧ v = .bool (isSetB o) ∧ Qt st st' := by
 have hr0 := hr
 obtain ⟨kk, ls, rfl, hK, hb⟩ := hr.open5
 have hln := hK.ln
 have hbn := hK.bnd
 refine J5 rfl Tryd.func61 rfl Tryd.ntmps61 rfl (by decide) (by simp) fun T hT => ?_
 have K : KnT [(0, _)] T := (.cons (hT 0) .nil)
 have M := Mem.start hf
 refine Qh <| Qa ?_
 refine Ub K M rfl (Qf rfl (Qf rfl (Qf rfl (Qf rfl (Qf hK.cell Q7))))) (by decide) fun c1 _ _ K M => ?_
 refine o1 K (Qb rfl) rfl fun _ K => Qd ?_
 show W _ _ _ _ _ _ _
 refine Qh <| Qa <| o1 K (Qe Je rfl) rfl fun _ K => o1 K (Qg rfl (M.load (k := 0) rfl (Qk Qx rfl))) rfl fun _ K => o1 K (Jo (b := [117, 110, 105, 111, 110]) rfl rfl) rfl fun _ K => ?_
 refine oB K (Qc rfl) rfl fun b6 _ e6 K => ?_
 cases b6
 ·replace e6 := of_decide_eq_false e6
  refine og K rfl rfl (Qe Je rfl) rfl fun _ K => og K rfl rfl (Qg rfl (M.load (k := 0) rfl (Qk Qx rfl))) rfl fun _ K => og K rfl rfl (Jo (b := [105, 110, 116, 101, 114]) rfl rfl) rfl fun _ K => o1 K (Qj rfl rfl rfl) rfl fun _ K => ?_
  refine oB K (Qc rfl) rfl fun b11 _ e11 K => ?_
  cases b11
  ·replace e11 := of_decide_eq_false e11
   refine og K rfl rfl (Qe Je rfl) rfl fun _ K => og K rfl rfl (Qg rfl (M.load (k := 0) rfl (Qk Qx rfl))) rfl fun _ K => og K rfl rfl (Jo (b := [109, 105, 110, 117, 115]) rfl rfl) rfl fun _ K => o1 K (Qj rfl rfl rfl) rfl fun _ K => o1 K (Qb rfl) rfl fun _ K => Qd ?_
   show W _ _ _ _ _ _ _
   refine Qs ?_
   refine ⟨.inr rfl, _, (Qm (Qp K rfl)), ?_⟩
   refine ⟨?_, M.qt⟩
   simp_all [bif', isSetB] <;> first | done | rfl | omega | (congr 1; done) | (congr 2; done) | (intros; omega)
  replace e11 := of_decide_eq_true e11
  refine gn K rfl rfl rfl rfl fun _ K => gn K rfl rfl rfl rfl fun _ K => gn K rfl rfl rfl rfl fun _ K => o1 K (Qj rfl rfl rfl) rfl fun _ K => o1 K (Qb rfl) rfl fun _ K => Qd ?_
  show W _ _ _ _ _ _ _
  refine Qs ?_
  refine ⟨.inr rfl, _, (Qm (Qp K rfl)), ?_⟩
  refine ⟨?_, M.qt⟩
  simp_all [bif', isSetB] <;> first | done | rfl | omega | (congr 1; done) | (congr 2; done) | (intros; omega)
 replace e6 := of_decide_eq_true e6
 refine gn K rfl rfl rfl rfl fun _ K => gn K rfl rfl rfl rfl fun _ K => gn K rfl rfl rfl rfl fun _ K => o1 K (Qj rfl rfl rfl) rfl fun _ K => o1 K (Qc rfl) rfl fun _ K => gn K rfl rfl rfl rfl fun _ K => gn K rfl rfl rfl rfl fun _ K => gn K rfl rfl rfl rfl fun _ K => o1 K (Qj rfl rfl rfl) rfl fun _ K => ?_
 refine o1 K (Qb rfl) rfl fun _ K => Qd ?_
 show W _ _ _ _ _ _ _
 refine Qs ?_
 refine ⟨.inr rfl, _, (Qm (Qp K rfl)), ?_⟩
 refine ⟨?_, M.qt⟩
 simp_all [bif', isSetB] <;> first | done | rfl | omega | (congr 1; done) | (congr 2; done) | (intros; omega)

theorem has_ev {o s : List Nat} {z a : Int} {l : List Nd} {st : St} {cs : List AV} (hf : Fresh st) (hr : RdN st.h.get (.mk o s z a l) cs) (m : Int) (nm nb : Bool) : ∃ v st', Ev Tryd.prog envD 56 [.agg cs, .int .i64 m, .bool nm, .bool nb] st v st' ∧ v = .bool (hasB s z l m nm nb) ∧ Qt st st' := by
 have hr0 := hr
 obtain ⟨kk, ls, rfl, hK, hb⟩ := hr.open5
 have hln := hK.ln
 have hbn := hK.bnd
 refine J5 rfl Tryd.func56 rfl Tryd.ntmps56 rfl (by decide) (by simp) fun T hT => ?_
 have K : KnT [(0, _), (1, _), (2, _), (3, _)] T := (.cons (hT 0) (.cons (hT 1) (.cons (hT 2) (.cons (hT 3) .nil))))
 have M := Mem.start hf
 refine Qh <| Qa ?_
 refine Ub K M rfl (Qf rfl (Qf rfl (Qf rfl (Qf rfl (Qf hK.cell Q7))))) (by decide) fun c4 _ _ K M => ?_
 refine o1 K (Qb rfl) rfl fun _ K => Qd ?_
 show W _ _ _ _ _ _ _
 refine Qh <| Qa <| o1 K (Qe Qw rfl) rfl fun _ K => o1 K (Qg rfl (M.load (k := 0) rfl (Qk Qu rfl))) rfl fun _ K => o1 K (Jn Q9 rfl rfl hK.len) rfl fun _ K => o1 K (Qc rfl) rfl fun _ K => o1 K (os_eqI rfl rfl) rfl fun _ K => ?_
 refine oB K (Qc rfl) rfl fun b14 _ e14 K => ?_
 cases b14
 ·replace e14 := of_decide_eq_false e14
  refine gn K rfl rfl rfl rfl fun _ K => gn K rfl rfl rfl rfl fun _ K => ?_
  refine gnT K rfl rfl rfl fun _ K => ?_
  refine gnT K rfl rfl rfl fun _ K => ?_
  refine gnT K rfl rfl rfl fun _ K => ?_
  refine gn K rfl rfl rfl rfl fun _ K => o1 K (Qj rfl rfl rfl) rfl fun _ K => o1 K (Qc rfl) rfl fun _ K => gn K rfl rfl rfl rfl fun _ K => gn K rfl rfl rfl rfl fun _ K => ?_
  refine gnT K rfl rfl rfl fun _ K => ?_
  refine gnT K rfl rfl rfl fun _ K => ?_
  refine gnT K rfl rfl rfl fun _ K => ?_
  refine gn K rfl rfl rfl rfl fun _ K => o1 K (Qj rfl rfl rfl) rfl fun _ K => o1 K (Qc rfl) rfl fun _ K => gn K rfl rfl rfl rfl fun _ K => gn K rfl rfl rfl rfl fun _ K => gn K rfl rfl rfl rfl fun _ K => ?_
  refine gnT K rfl rfl rfl fun _ K => ?_
  refine gnT K rfl rfl rfl fun _ K => ?_
  refine gnT K rfl rfl rfl fun _ K => ?_
  refine gn K rfl rfl rfl rfl fun _ K => o1 K (Qj rfl rfl rfl) rfl fun _ K => o1 K (Qb rfl) rfl fun _ K => Qd ?_
  show W _ _ _ _ _ _ _
  refine Qs ?_
  refine ⟨.inr rfl, _, (Qm (Qp K rfl)), ?_⟩
  refine ⟨?_, M.qt⟩
  simp_all [bif', hasB] <;> first | done | rfl | omega | (congr 1; done) | (congr 2; done) | (intros; omega)
 replace e14 := of_decide_eq_true e14
 refine og K rfl rfl (Qc rfl) rfl fun _ K => ?_
 refine oGB K rfl rfl (Qc rfl) rfl fun b16 _ e16 K => ?_
 cases b16
 ·refine og K rfl rfl (Qe Ja rfl) rfl fun _ K => og K rfl rfl (Qg rfl (M.load (k := 0) rfl (Qk Qx rfl))) rfl fun _ K => og K rfl rfl (Jo (b := []) rfl rfl) rfl fun _ K => og K rfl rfl (Qj rfl rfl rfl) rfl fun _ K => o1 K (Qj rfl rfl rfl) rfl fun _ K => ?_
  refine oB K (Qc rfl) rfl fun b22 _ e22 K => ?_
  cases b22
  ·replace e22 := of_decide_eq_false e22
   refine gn K rfl rfl rfl rfl fun _ K => gn K rfl rfl rfl rfl fun _ K => ?_
   refine gnT K rfl rfl rfl fun _ K => ?_
   refine gnT K rfl rfl rfl fun _ K => ?_
   refine gnT K rfl rfl rfl fun _ K => ?_
   refine gn K rfl rfl rfl rfl fun _ K => o1 K (Qj rfl rfl rfl) rfl fun _ K => o1 K (Qc rfl) rfl fun _ K => gn K rfl rfl rfl rfl fun _ K => gn K rfl rfl rfl rfl fun _ K => gn K rfl rfl rfl rfl fun _ K => ?_
   refine gnT K rfl rfl rfl fun _ K => ?_
   refine gnT K rfl rfl rfl fun _ K => ?_
   refine gnT K rfl rfl rfl fun _ K => ?_
   refine gn K rfl rfl rfl rfl fun _ K => o1 K (Qj rfl rfl rfl) rfl fun _ K => o1 K (Qb rfl) rfl fun _ K => Qd ?_
   show W _ _ _ _ _ _ _
   refine Qs ?_
   refine ⟨.inr rfl, _, (Qm (Qp K rfl)), ?_⟩
   refine ⟨?_, M.qt⟩
   simp_all [bif', hasB] <;> first | done | rfl | omega | (congr 1; done) | (congr 2; done) | (intros; omega)
  replace e22 := of_decide_eq_true e22
  refine og K rfl rfl (Qc rfl) rfl fun _ K => ?_
  refine oGB K rfl rfl (Qc rfl) rfl fun b24 _ e24 K => ?_
  cases b24
  ·refine og K rfl rfl (Qe Jp rfl) rfl fun _ K => og K rfl rfl (Qg rfl (M.load (k := 0) rfl (Qk Ju rfl))) rfl fun _ K => og K rfl rfl (os_eqI rfl rfl) rfl fun _ K => og K rfl rfl (Qj rfl rfl rfl) rfl fun _ K => o1 K (Qj rfl rfl rfl) rfl fun _ K => ?_
   refine oB K (Qc rfl) rfl fun b30 _ e30 K => ?_
   cases b30
   ·replace e30 := of_decide_eq_false e30
    refine gn K rfl rfl rfl rfl fun _ K => gn K rfl rfl rfl rfl fun _ K => gn K rfl rfl rfl rfl fun _ K => ?_
    refine gnT K rfl rfl rfl fun _ K => ?_
    refine gnT K rfl rfl rfl fun _ K => ?_
    refine gnT K rfl rfl rfl fun _ K => ?_
    refine gn K rfl rfl rfl rfl fun _ K => o1 K (Qj rfl rfl rfl) rfl fun _ K => o1 K (Qb rfl) rfl fun _ K => Qd ?_
    show W _ _ _ _ _ _ _
    refine Qs ?_
    refine ⟨.inr rfl, _, (Qm (Qp K rfl)), ?_⟩
    refine ⟨?_, M.qt⟩
    simp_all [bif', hasB] <;> first | done | rfl | omega | (congr 1; done) | (congr 2; done) | (intros; omega)
   replace e30 := of_decide_eq_true e30
   refine og K rfl rfl (Qc rfl) rfl fun _ K => og K rfl rfl (os_not rfl) rfl fun _ K => ?_
   refine oGB K rfl rfl (Qc rfl) rfl fun b33 _ e33 K => ?_
   cases b33
   ·replace e33 : (nm) = true := by simpa using e33
    refine og K rfl rfl (Qe Ja rfl) rfl fun _ K => og K rfl rfl (Qg rfl (M.load (k := 0) rfl (Qk Qx rfl))) rfl fun _ K => ?_
    obtain ⟨v36, st36, ev36, rfl, q36⟩ := risName_ev M.fresh s hb.2
    refine og K rfl rfl (Qn rfl ev36) rfl fun _ K => ?_
    replace M := M.quiet q36
    refine og K rfl rfl (Qj rfl rfl rfl) rfl fun _ K => o1 K (Qj rfl rfl rfl) rfl fun _ K => o1 K (Qb rfl) rfl fun _ K => Qd ?_
    show W _ _ _ _ _ _ _
    refine Qs ?_
    refine ⟨.inr rfl, _, (Qm (Qp K rfl)), ?_⟩
    refine ⟨?_, M.qt⟩
    simp_all [bif', hasB] <;> first | done | rfl | omega | (congr 1; done) | (congr 2; done) | (intros; omega)
   replace e33 : (nm) = false := by simpa using e33
   refine gn K rfl rfl rfl rfl fun _ K => gn K rfl rfl rfl rfl fun _ K => gn K rfl rfl rfl rfl fun _ K => og K rfl rfl (Qj rfl rfl rfl) rfl fun _ K => o1 K (Qj rfl rfl rfl) rfl fun _ K => o1 K (Qb rfl) rfl fun _ K => Qd ?_
   show W _ _ _ _ _ _ _
   refine Qs ?_
   refine ⟨.inr rfl, _, (Qm (Qp K rfl)), ?_⟩
   refine ⟨?_, M.qt⟩
   simp_all [bif', hasB] <;> first | done | rfl | omega | (congr 1; done) | (congr 2; done) | (intros; omega)
  refine gn K rfl rfl rfl rfl fun _ K => gn K rfl rfl rfl rfl fun _ K => gn K rfl rfl rfl rfl fun _ K => og K rfl rfl (Qj rfl rfl rfl) rfl fun _ K => o1 K (Qj rfl rfl rfl) rfl fun _ K => o1 K (Qc rfl) rfl fun _ K => og K rfl rfl (Qc rfl) rfl fun _ K => og K rfl rfl (os_not rfl) rfl fun _ K => ?_
  refine oGB K rfl rfl (Qc rfl) rfl fun b33 _ e33 K => ?_
  cases b33
  ·replace e33 : (nm) = true := by simpa using e33
   refine og K rfl rfl (Qe Ja rfl) rfl fun _ K => og K rfl rfl (Qg rfl (M.load (k := 0) rfl (Qk Qx rfl))) rfl fun _ K => ?_
   obtain ⟨v36, st36, ev36, rfl, q36⟩ := risName_ev M.fresh s hb.2
   refine og K rfl rfl (Qn rfl ev36) rfl fun _ K => ?_
   replace M := M.quiet q36
   refine og K rfl rfl (Qj rfl rfl rfl) rfl fun _ K => o1 K (Qj rfl rfl rfl) rfl fun _ K => o1 K (Qb rfl) rfl fun _ K => Qd ?_
   show W _ _ _ _ _ _ _
   refine Qs ?_
   refine ⟨.inr rfl, _, (Qm (Qp K rfl)), ?_⟩
   refine ⟨?_, M.qt⟩
   simp_all [bif', hasB] <;> first | done | rfl | omega | (congr 1; done) | (congr 2; done) | (intros; omega)
  replace e33 : (nm) = false := by simpa using e33
  refine gn K rfl rfl rfl rfl fun _ K => gn K rfl rfl rfl rfl fun _ K => gn K rfl rfl rfl rfl fun _ K => og K rfl rfl (Qj rfl rfl rfl) rfl fun _ K => o1 K (Qj rfl rfl rfl) rfl fun _ K => o1 K (Qb rfl) rfl fun _ K => Qd ?_
  show W _ _ _ _ _ _ _
  refine Qs ?_
  refine ⟨.inr rfl, _, (Qm (Qp K rfl)), ?_⟩
  refine ⟨?_, M.qt⟩
  simp_all [bif', hasB] <;> first | done | rfl | omega | (congr 1; done) | (congr 2; done) | (intros; omega)
 refine gn K rfl rfl rfl rfl fun _ K => gn K rfl rfl rfl rfl fun _ K => gn K rfl rfl rfl rfl fun _ K => og K rfl rfl (Qj rfl rfl rfl) rfl fun _ K => o1 K (Qj rfl rfl rfl) rfl fun _ K => o1 K (Qc rfl) rfl fun _ K => og K rfl rfl (Qc rfl) rfl fun _ K => ?_
 refine oGB K rfl rfl (Qc rfl) rfl fun b24 _ e24 K => ?_
 cases b24
 ·refine og K rfl rfl (Qe Jp rfl) rfl fun _ K => og K rfl rfl (Qg rfl (M.load (k := 0) rfl (Qk Ju rfl))) rfl fun _ K => og K rfl rfl (os_eqI rfl rfl) rfl fun _ K => og K rfl rfl (Qj rfl rfl rfl) rfl fun _ K => o1 K (Qj rfl rfl rfl) rfl fun _ K => ?_
  refine oB K (Qc rfl) rfl fun b30 _ e30 K => ?_
  cases b30
  ·replace e30 := of_decide_eq_false e30
   refine gn K rfl rfl rfl rfl fun _ K => gn K rfl rfl rfl rfl fun _ K => gn K rfl rfl rfl rfl fun _ K => ?_
   refine gnT K rfl rfl rfl fun _ K => ?_
   refine gnT K rfl rfl rfl fun _ K => ?_
   refine gnT K rfl rfl rfl fun _ K => ?_
   refine gn K rfl rfl rfl rfl fun _ K => o1 K (Qj rfl rfl rfl) rfl fun _ K => o1 K (Qb rfl) rfl fun _ K => Qd ?_
   show W _ _ _ _ _ _ _
   refine Qs ?_
   refine ⟨.inr rfl, _, (Qm (Qp K rfl)), ?_⟩
   refine ⟨?_, M.qt⟩
   simp_all [bif', hasB] <;> first | done | rfl | omega | (congr 1; done) | (congr 2; done) | (intros; omega)
  replace e30 := of_decide_eq_true e30
  refine og K rfl rfl (Qc rfl) rfl fun _ K => og K rfl rfl (os_not rfl) rfl fun _ K => ?_
  refine oGB K rfl rfl (Qc rfl) rfl fun b33 _ e33 K => ?_
  cases b33
  ·replace e33 : (nm) = true := by simpa using e33
   refine og K rfl rfl (Qe Ja rfl) rfl fun _ K => og K rfl rfl (Qg rfl (M.load (k := 0) rfl (Qk Qx rfl))) rfl fun _ K => ?_
   obtain ⟨v36, st36, ev36, rfl, q36⟩ := risName_ev M.fresh s hb.2
   refine og K rfl rfl (Qn rfl ev36) rfl fun _ K => ?_
   replace M := M.quiet q36
   refine og K rfl rfl (Qj rfl rfl rfl) rfl fun _ K => o1 K (Qj rfl rfl rfl) rfl fun _ K => o1 K (Qb rfl) rfl fun _ K => Qd ?_
   show W _ _ _ _ _ _ _
   refine Qs ?_
   refine ⟨.inr rfl, _, (Qm (Qp K rfl)), ?_⟩
   refine ⟨?_, M.qt⟩
   simp_all [bif', hasB] <;> first | done | rfl | omega | (congr 1; done) | (congr 2; done) | (intros; omega)
  replace e33 : (nm) = false := by simpa using e33
  refine gn K rfl rfl rfl rfl fun _ K => gn K rfl rfl rfl rfl fun _ K => gn K rfl rfl rfl rfl fun _ K => og K rfl rfl (Qj rfl rfl rfl) rfl fun _ K => o1 K (Qj rfl rfl rfl) rfl fun _ K => o1 K (Qb rfl) rfl fun _ K => Qd ?_
  show W _ _ _ _ _ _ _
  refine Qs ?_
  refine ⟨.inr rfl, _, (Qm (Qp K rfl)), ?_⟩
  refine ⟨?_, M.qt⟩
  simp_all [bif', hasB] <;> first | done | rfl | omega | (congr 1; done) | (congr 2; done) | (intros; omega)
 refine gn K rfl rfl rfl rfl fun _ K => gn K rfl rfl rfl rfl fun _ K => gn K rfl rfl rfl rfl fun _ K => og K rfl rfl (Qj rfl rfl rfl) rfl fun _ K => o1 K (Qj rfl rfl rfl) rfl fun _ K => o1 K (Qc rfl) rfl fun _ K => og K rfl rfl (Qc rfl) rfl fun _ K => og K rfl rfl (os_not rfl) rfl fun _ K => ?_
 refine oGB K rfl rfl (Qc rfl) rfl fun b33 _ e33 K => ?_
 cases b33
 ·replace e33 : (nm) = true := by simpa using e33
  refine og K rfl rfl (Qe Ja rfl) rfl fun _ K => og K rfl rfl (Qg rfl (M.load (k := 0) rfl (Qk Qx rfl))) rfl fun _ K => ?_
  obtain ⟨v36, st36, ev36, rfl, q36⟩ := risName_ev M.fresh s hb.2
  refine og K rfl rfl (Qn rfl ev36) rfl fun _ K => ?_
  replace M := M.quiet q36
  refine og K rfl rfl (Qj rfl rfl rfl) rfl fun _ K => o1 K (Qj rfl rfl rfl) rfl fun _ K => o1 K (Qb rfl) rfl fun _ K => Qd ?_
  show W _ _ _ _ _ _ _
  refine Qs ?_
  refine ⟨.inr rfl, _, (Qm (Qp K rfl)), ?_⟩
  refine ⟨?_, M.qt⟩
  simp_all [bif', hasB] <;> first | done | rfl | omega | (congr 1; done) | (congr 2; done) | (intros; omega)
 replace e33 : (nm) = false := by simpa using e33
 refine gn K rfl rfl rfl rfl fun _ K => gn K rfl rfl rfl rfl fun _ K => gn K rfl rfl rfl rfl fun _ K => og K rfl rfl (Qj rfl rfl rfl) rfl fun _ K => o1 K (Qj rfl rfl rfl) rfl fun _ K => o1 K (Qb rfl) rfl fun _ K => Qd ?_
 show W _ _ _ _ _ _ _
 refine Qs ?_
 refine ⟨.inr rfl, _, (Qm (Qp K rfl)), ?_⟩
 refine ⟨?_, M.qt⟩
 simp_all [bif', hasB] <;> first | done | rfl | omega | (congr 1; done) | (congr 2; done) | (intros; omega)

end Go.Proofs.YtmjnbdkjekdkgaaDoor
