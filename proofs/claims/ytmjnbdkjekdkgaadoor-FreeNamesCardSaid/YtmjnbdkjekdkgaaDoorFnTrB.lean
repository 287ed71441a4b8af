/-
  Terms: the program's answer, the reference's.
-/
import Derived.Test.YtmjnbdkjekdkgaaDoorFnTrA
import Derived.Test.YtmjnbdkjekdkgaaDoorFnTyf
namespace Go.Proofs.YtmjnbdkjekdkgaaDoor
open Go Go.RowKit
set_option linter.unusedVariables false
set_option linter.unusedSimpArgs false
set_option maxRecDepth 100000

/-- Where the first one is of which this holds. -/
def idxA {α : Type} (p : α → Bool) : List α → Nat → Int
  | [], _ => -1
  | k :: l, i => if p k then (i : Int) else idxA p l (i + 1)
theorem idxA_step {α : Type} {p : α → Bool} {l : List α} {i : Nat} {k : α} (h : l[i]? = some k) : idxA p (l.drop i) i = if p k then (i : Int) else idxA p (l.drop (i + 1)) (i + 1) := by
  obtain ⟨h1, h2⟩ := List.getElem?_eq_some_iff.1 h
  rw [List.drop_eq_getElem_cons h1, idxA, h2]
theorem idxA_any {α : Type} (p : α → Bool) : ∀ (l : List α) (i : Nat), decide (0 ≤ idxA p l i) = l.any p := by
  intro l
  induction l with
  | nil => intro i; rfl
  | cons k l ih =>
    intro i
    rw [idxA, List.any_cons]
    cases hp : p k with
    | true => rw [if_pos rfl]; simp
    | false => rw [if_neg (by decide), ih]; rfl
theorem not_any {α : Type} (p : α → Bool) (l : List α) : (!l.any fun k => !p k) = l.all p := by
  induction l with
  | nil => rfl
  | cons k l ih => rw [List.any_cons, List.all_cons, ← ih]; cases p k <;> simp
theorem one_kid {l : List Nd} {k : Nd} (h : ((l.length : Nat) : Int) = 1) (hi : l[0]? = some k) : l = [k] := by
  match l, h, hi with
  | [a], _, hi => injection hi with hi; rw [hi]
  | [], h, _ => simp at h
  | a :: b :: l, h, _ => exact absurd h (by simp only [List.length_cons]; omega)
def hasB (name : List Nat) (n : Int) (kids : List Nd) (m : Int) (nm nb : Bool) : Bool := decide (((kids.length : Nat) : Int) = m) && ((nm || decide (name = [])) && ((nb || decide (n = 0)) && (!nm || nameB name)))
theorem bare_len {s : List Nat} {z : Int} {l : List Nd} {m : Int} (h : bareB s z l m = true) : ((l.length : Nat) : Int) = m := by
  simp [bareB] at h; exact h.2.2
theorem has_len {s : List Nat} {n : Int} {l : List Nd} {m : Int} {nm nb : Bool} (h : hasB s n l m nm nb = true) : ((l.length : Nat) : Int) = m := by
  simp [hasB] at h; exact h.1

theorem isSet_ev {o s : List Nat} {z a : Int} {l : List Nd} {st : St} {cs : List AV} (hf : Fresh st) (hr : RdN st.h.get (.mk o s z a l) cs)  : ∃ v st', Ev Tryd.prog envD 60 [.agg cs] st v st' ∧ v = .bool (isSetB o) ∧ Qt st st' := by
 have hr0 := hr
 obtain ⟨kk, ls, rfl, hK, hb⟩ := hr.open5
 have hln := hK.ln
 have hbn := hK.bnd
 refine ev_fn rfl Tryd.func60 rfl Tryd.ntmps60 rfl (by decide) (by simp) fun T hT => ?_
 have K : KnT [(0, _)] T := (.cons (hT 0) .nil)
 have M := Mem.start hf
 refine w_seq ?_
 refine w_region ?_
 refine wr_box K M rfl (cl_cons rfl (cl_cons rfl (cl_cons rfl (cl_cons rfl (cl_cons hK.cell cl_nil))))) (by decide) fun c1 _ _ K M => ?_
 refine o1 K (os_assign rfl) rfl fun _ K => ?_
 refine wr_nil ?_
 show W _ _ _ _ _ _ _
 refine w_seq ?_
 refine w_region ?_
 refine o1 K (os_fieldAddr fo_api_Node_0 rfl) rfl fun _ K => ?_
 refine o1 K (os_load rfl (M.load (k := 0) rfl (part_one tk_string rfl))) rfl fun _ K => ?_
 refine o1 K (os_eqS (b := [117, 110, 105, 111, 110]) rfl rfl) rfl fun _ K => ?_
 refine oB K (os_move rfl) rfl fun b6 _ e6 K => ?_
 cases b6
 · replace e6 := of_decide_eq_false e6
   refine og K rfl rfl (os_fieldAddr fo_api_Node_0 rfl) rfl fun _ K => ?_
   refine og K rfl rfl (os_load rfl (M.load (k := 0) rfl (part_one tk_string rfl))) rfl fun _ K => ?_
   refine og K rfl rfl (os_eqS (b := [105, 110, 116, 101, 114]) rfl rfl) rfl fun _ K => ?_
   refine o1 K (os_pick rfl rfl rfl) rfl fun _ K => ?_
   refine oB K (os_move rfl) rfl fun b11 _ e11 K => ?_
   cases b11
   · replace e11 := of_decide_eq_false e11
     refine og K rfl rfl (os_fieldAddr fo_api_Node_0 rfl) rfl fun _ K => ?_
     refine og K rfl rfl (os_load rfl (M.load (k := 0) rfl (part_one tk_string rfl))) rfl fun _ K => ?_
     refine og K rfl rfl (os_eqS (b := [109, 105, 110, 117, 115]) rfl rfl) rfl fun _ K => ?_
     refine o1 K (os_pick rfl rfl rfl) rfl fun _ K => ?_
     refine o1 K (os_assign rfl) rfl fun _ K => ?_
     refine wr_nil ?_
     show W _ _ _ _ _ _ _
     refine w_ret ?_
     refine ⟨.inr rfl, _, (res_one (rs_tmp K rfl)), ?_⟩
     refine ⟨?_, M.qt⟩
     simp_all [bif', isSetB] <;> first | done | rfl | omega | (congr 1; done) | (congr 2; done) | (intros; omega)
   replace e11 := of_decide_eq_true e11
   refine gn K rfl rfl rfl rfl fun _ K => ?_
   refine gn K rfl rfl rfl rfl fun _ K => ?_
   refine gn K rfl rfl rfl rfl fun _ K => ?_
   refine o1 K (os_pick rfl rfl rfl) rfl fun _ K => ?_
   refine o1 K (os_assign rfl) rfl fun _ K => ?_
   refine wr_nil ?_
   show W _ _ _ _ _ _ _
   refine w_ret ?_
   refine ⟨.inr rfl, _, (res_one (rs_tmp K rfl)), ?_⟩
   refine ⟨?_, M.qt⟩
   simp_all [bif', isSetB] <;> first | done | rfl | omega | (congr 1; done) | (congr 2; done) | (intros; omega)
 replace e6 := of_decide_eq_true e6
 refine gn K rfl rfl rfl rfl fun _ K => ?_
 refine gn K rfl rfl rfl rfl fun _ K => ?_
 refine gn K rfl rfl rfl rfl fun _ K => ?_
 refine o1 K (os_pick rfl rfl rfl) rfl fun _ K => ?_
 refine o1 K (os_move rfl) rfl fun _ K => ?_
 refine gn K rfl rfl rfl rfl fun _ K => ?_
 refine gn K rfl rfl rfl rfl fun _ K => ?_
 refine gn K rfl rfl rfl rfl fun _ K => ?_
 refine o1 K (os_pick rfl rfl rfl) rfl fun _ K => ?_
 refine o1 K (os_assign rfl) rfl fun _ K => ?_
 refine wr_nil ?_
 show W _ _ _ _ _ _ _
 refine w_ret ?_
 refine ⟨.inr rfl, _, (res_one (rs_tmp K rfl)), ?_⟩
 refine ⟨?_, M.qt⟩
 simp_all [bif', isSetB] <;> first | done | rfl | omega | (congr 1; done) | (congr 2; done) | (intros; omega)

theorem rSet_ev {o s : List Nat} {z a : Int} {l : List Nd} {st : St} {cs : List AV} (hf : Fresh st) (hr : RdN st.h.get (.mk o s z a l) cs)  : ∃ v st', Ev Tryd.prog envD 61 [.agg cs] st v st' ∧ v = .bool (isSetB o) ∧ Qt st st' := by
 have hr0 := hr
 obtain ⟨kk, ls, rfl, hK, hb⟩ := hr.open5
 have hln := hK.ln
 have hbn := hK.bnd
 refine ev_fn rfl Tryd.func61 rfl Tryd.ntmps61 rfl (by decide) (by simp) fun T hT => ?_
 have K : KnT [(0, _)] T := (.cons (hT 0) .nil)
 have M := Mem.start hf
 refine w_seq ?_
 refine w_region ?_
 refine wr_box K M rfl (cl_cons rfl (cl_cons rfl (cl_cons rfl (cl_cons rfl (cl_cons hK.cell cl_nil))))) (by decide) fun c1 _ _ K M => ?_
 refine o1 K (os_assign rfl) rfl fun _ K => ?_
 refine wr_nil ?_
 show W _ _ _ _ _ _ _
 refine w_seq ?_
 refine w_region ?_
 refine o1 K (os_fieldAddr fo_api_Node_0 rfl) rfl fun _ K => ?_
 refine o1 K (os_load rfl (M.load (k := 0) rfl (part_one tk_string rfl))) rfl fun _ K => ?_
 refine o1 K (os_eqS (b := [117, 110, 105, 111, 110]) rfl rfl) rfl fun _ K => ?_
 refine oB K (os_move rfl) rfl fun b6 _ e6 K => ?_
 cases b6
 · replace e6 := of_decide_eq_false e6
   refine og K rfl rfl (os_fieldAddr fo_api_Node_0 rfl) rfl fun _ K => ?_
   refine og K rfl rfl (os_load rfl (M.load (k := 0) rfl (part_one tk_string rfl))) rfl fun _ K => ?_
   refine og K rfl rfl (os_eqS (b := [105, 110, 116, 101, 114]) rfl rfl) rfl fun _ K => ?_
   refine o1 K (os_pick rfl rfl rfl) rfl fun _ K => ?_
   refine oB K (os_move rfl) rfl fun b11 _ e11 K => ?_
   cases b11
   · replace e11 := of_decide_eq_false e11
     refine og K rfl rfl (os_fieldAddr fo_api_Node_0 rfl) rfl fun _ K => ?_
     refine og K rfl rfl (os_load rfl (M.load (k := 0) rfl (part_one tk_string rfl))) rfl fun _ K => ?_
     refine og K rfl rfl (os_eqS (b := [109, 105, 110, 117, 115]) rfl rfl) rfl fun _ K => ?_
     refine o1 K (os_pick rfl rfl rfl) rfl fun _ K => ?_
     refine o1 K (os_assign rfl) rfl fun _ K => ?_
     refine wr_nil ?_
     show W _ _ _ _ _ _ _
     refine w_ret ?_
     refine ⟨.inr rfl, _, (res_one (rs_tmp K rfl)), ?_⟩
     refine ⟨?_, M.qt⟩
     simp_all [bif', isSetB] <;> first | done | rfl | omega | (congr 1; done) | (congr 2; done) | (intros; omega)
   replace e11 := of_decide_eq_true e11
   refine gn K rfl rfl rfl rfl fun _ K => ?_
   refine gn K rfl rfl rfl rfl fun _ K => ?_
   refine gn K rfl rfl rfl rfl fun _ K => ?_
   refine o1 K (os_pick rfl rfl rfl) rfl fun _ K => ?_
   refine o1 K (os_assign rfl) rfl fun _ K => ?_
   refine wr_nil ?_
   show W _ _ _ _ _ _ _
   refine w_ret ?_
   refine ⟨.inr rfl, _, (res_one (rs_tmp K rfl)), ?_⟩
   refine ⟨?_, M.qt⟩
   simp_all [bif', isSetB] <;> first | done | rfl | omega | (congr 1; done) | (congr 2; done) | (intros; omega)
 replace e6 := of_decide_eq_true e6
 refine gn K rfl rfl rfl rfl fun _ K => ?_
 refine gn K rfl rfl rfl rfl fun _ K => ?_
 refine gn K rfl rfl rfl rfl fun _ K => ?_
 refine o1 K (os_pick rfl rfl rfl) rfl fun _ K => ?_
 refine o1 K (os_move rfl) rfl fun _ K => ?_
 refine gn K rfl rfl rfl rfl fun _ K => ?_
 refine gn K rfl rfl rfl rfl fun _ K => ?_
 refine gn K rfl rfl rfl rfl fun _ K => ?_
 refine o1 K (os_pick rfl rfl rfl) rfl fun _ K => ?_
 refine o1 K (os_assign rfl) rfl fun _ K => ?_
 refine wr_nil ?_
 show W _ _ _ _ _ _ _
 refine w_ret ?_
 refine ⟨.inr rfl, _, (res_one (rs_tmp K rfl)), ?_⟩
 refine ⟨?_, M.qt⟩
 simp_all [bif', isSetB] <;> first | done | rfl | omega | (congr 1; done) | (congr 2; done) | (intros; omega)

theorem bare_ev {o s : List Nat} {z a : Int} {l : List Nd} {st : St} {cs : List AV} (hf : Fresh st) (hr : RdN st.h.get (.mk o s z a l) cs) (m : Int) : ∃ v st', Ev Tryd.prog envD 53 [.agg cs, .int .i64 m] st v st' ∧ v = .bool (bareB s z l m) ∧ Qt st st' := by
 have hr0 := hr
 obtain ⟨kk, ls, rfl, hK, hb⟩ := hr.open5
 have hln := hK.ln
 have hbn := hK.bnd
 refine ev_fn rfl Tryd.func53 rfl Tryd.ntmps53 rfl (by decide) (by simp) fun T hT => ?_
 have K : KnT [(0, _), (1, _)] T := (.cons (hT 0) (.cons (hT 1) .nil))
 have M := Mem.start hf
 refine w_seq ?_
 refine w_region ?_
 refine wr_box K M rfl (cl_cons rfl (cl_cons rfl (cl_cons rfl (cl_cons rfl (cl_cons hK.cell cl_nil))))) (by decide) fun c2 _ _ K M => ?_
 refine o1 K (os_assign rfl) rfl fun _ K => ?_
 refine wr_nil ?_
 show W _ _ _ _ _ _ _
 refine w_seq ?_
 refine w_region ?_
 refine o1 K (os_fieldAddr fo_api_Node_1 rfl) rfl fun _ K => ?_
 refine o1 K (os_load rfl (M.load (k := 0) rfl (part_one tk_string rfl))) rfl fun _ K => ?_
 refine o1 K (os_eqS (b := []) rfl rfl) rfl fun _ K => ?_
 refine oB K (os_move rfl) rfl fun b8 _ e8 K => ?_
 cases b8
 · replace e8 := of_decide_eq_false e8
   refine gn K rfl rfl rfl rfl fun _ K => ?_
   refine gn K rfl rfl rfl rfl fun _ K => ?_
   refine gn K rfl rfl rfl rfl fun _ K => ?_
   refine o1 K (os_pick rfl rfl rfl) rfl fun _ K => ?_
   refine o1 K (os_move rfl) rfl fun _ K => ?_
   refine gn K rfl rfl rfl rfl fun _ K => ?_
   refine gn K rfl rfl rfl rfl fun _ K => ?_
   refine gn K rfl rfl rfl rfl fun _ K => ?_
   refine gn K rfl rfl rfl rfl fun _ K => ?_
   refine gn K rfl rfl rfl rfl fun _ K => ?_
   refine o1 K (os_pick rfl rfl rfl) rfl fun _ K => ?_
   refine o1 K (os_assign rfl) rfl fun _ K => ?_
   refine wr_nil ?_
   show W _ _ _ _ _ _ _
   refine w_ret ?_
   refine ⟨.inr rfl, _, (res_one (rs_tmp K rfl)), ?_⟩
   refine ⟨?_, M.qt⟩
   simp_all [bif', bareB] <;> first | done | rfl | omega | (congr 1; done) | (congr 2; done) | (intros; omega)
 replace e8 := of_decide_eq_true e8
 refine og K rfl rfl (os_fieldAddr fo_api_Node_2 rfl) rfl fun _ K => ?_
 refine og K rfl rfl (os_load rfl (M.load (k := 0) rfl (part_one tk_int rfl))) rfl fun _ K => ?_
 refine og K rfl rfl (os_eqI rfl rfl) rfl fun _ K => ?_
 refine o1 K (os_pick rfl rfl rfl) rfl fun _ K => ?_
 refine oB K (os_move rfl) rfl fun b13 _ e13 K => ?_
 cases b13
 · replace e13 := of_decide_eq_false e13
   refine gn K rfl rfl rfl rfl fun _ K => ?_
   refine gn K rfl rfl rfl rfl fun _ K => ?_
   refine gn K rfl rfl rfl rfl fun _ K => ?_
   refine gn K rfl rfl rfl rfl fun _ K => ?_
   refine gn K rfl rfl rfl rfl fun _ K => ?_
   refine o1 K (os_pick rfl rfl rfl) rfl fun _ K => ?_
   refine o1 K (os_assign rfl) rfl fun _ K => ?_
   refine wr_nil ?_
   show W _ _ _ _ _ _ _
   refine w_ret ?_
   refine ⟨.inr rfl, _, (res_one (rs_tmp K rfl)), ?_⟩
   refine ⟨?_, M.qt⟩
   simp_all [bif', bareB] <;> first | done | rfl | omega | (congr 1; done) | (congr 2; done) | (intros; omega)
 replace e13 := of_decide_eq_true e13
 refine og K rfl rfl (os_fieldAddr fo_api_Node_4 rfl) rfl fun _ K => ?_
 refine og K rfl rfl (os_load rfl (M.load (k := 0) rfl (part_one tk_S_api_Node rfl))) rfl fun _ K => ?_
 refine og K rfl rfl (os_lenL un_S_api_Node rfl rfl hK.len) rfl fun _ K => ?_
 refine og K rfl rfl (os_move rfl) rfl fun _ K => ?_
 refine og K rfl rfl (os_eqI rfl rfl) rfl fun _ K => ?_
 refine o1 K (os_pick rfl rfl rfl) rfl fun _ K => ?_
 refine o1 K (os_assign rfl) rfl fun _ K => ?_
 refine wr_nil ?_
 show W _ _ _ _ _ _ _
 refine w_ret ?_
 refine ⟨.inr rfl, _, (res_one (rs_tmp K rfl)), ?_⟩
 refine ⟨?_, M.qt⟩
 simp_all [bif', bareB] <;> first | done | rfl | omega | (congr 1; done) | (congr 2; done) | (intros; omega)

theorem has_ev {o s : List Nat} {z a : Int} {l : List Nd} {st : St} {cs : List AV} (hf : Fresh st) (hr : RdN st.h.get (.mk o s z a l) cs) (m : Int) (nm nb : Bool) : ∃ v st', Ev Tryd.prog envD 56 [.agg cs, .int .i64 m, .bool nm, .bool nb] st v st' ∧ v = .bool (hasB s z l m nm nb) ∧ Qt st st' := by
 have hr0 := hr
 obtain ⟨kk, ls, rfl, hK, hb⟩ := hr.open5
 have hln := hK.ln
 have hbn := hK.bnd
 refine ev_fn rfl Tryd.func56 rfl Tryd.ntmps56 rfl (by decide) (by simp) fun T hT => ?_
 have K : KnT [(0, _), (1, _), (2, _), (3, _)] T := (.cons (hT 0) (.cons (hT 1) (.cons (hT 2) (.cons (hT 3) .nil))))
 have M := Mem.start hf
 refine w_seq ?_
 refine w_region ?_
 refine wr_box K M rfl (cl_cons rfl (cl_cons rfl (cl_cons rfl (cl_cons rfl (cl_cons hK.cell cl_nil))))) (by decide) fun c4 _ _ K M => ?_
 refine o1 K (os_assign rfl) rfl fun _ K => ?_
 refine wr_nil ?_
 show W _ _ _ _ _ _ _
 refine w_seq ?_
 refine w_region ?_
 refine o1 K (os_fieldAddr fo_api_Node_4 rfl) rfl fun _ K => ?_
 refine o1 K (os_load rfl (M.load (k := 0) rfl (part_one tk_S_api_Node rfl))) rfl fun _ K => ?_
 refine o1 K (os_lenL un_S_api_Node rfl rfl hK.len) rfl fun _ K => ?_
 refine o1 K (os_move rfl) rfl fun _ K => ?_
 refine o1 K (os_eqI rfl rfl) rfl fun _ K => ?_
 refine oB K (os_move rfl) rfl fun b14 _ e14 K => ?_
 cases b14
 · replace e14 := of_decide_eq_false e14
   refine gn K rfl rfl rfl rfl fun _ K => ?_
   refine gn K rfl rfl rfl rfl fun _ K => ?_
   refine gnT K rfl rfl rfl fun _ K => ?_
   refine gnT K rfl rfl rfl fun _ K => ?_
   refine gnT K rfl rfl rfl fun _ K => ?_
   refine gn K rfl rfl rfl rfl fun _ K => ?_
   refine o1 K (os_pick rfl rfl rfl) rfl fun _ K => ?_
   refine o1 K (os_move rfl) rfl fun _ K => ?_
   refine gn K rfl rfl rfl rfl fun _ K => ?_
   refine gn K rfl rfl rfl rfl fun _ K => ?_
   refine gnT K rfl rfl rfl fun _ K => ?_
   refine gnT K rfl rfl rfl fun _ K => ?_
   refine gnT K rfl rfl rfl fun _ K => ?_
   refine gn K rfl rfl rfl rfl fun _ K => ?_
   refine o1 K (os_pick rfl rfl rfl) rfl fun _ K => ?_
   refine o1 K (os_move rfl) rfl fun _ K => ?_
   refine gn K rfl rfl rfl rfl fun _ K => ?_
   refine gn K rfl rfl rfl rfl fun _ K => ?_
   refine gn K rfl rfl rfl rfl fun _ K => ?_
   refine gnT K rfl rfl rfl fun _ K => ?_
   refine gnT K rfl rfl rfl fun _ K => ?_
   refine gnT K rfl rfl rfl fun _ K => ?_
   refine gn K rfl rfl rfl rfl fun _ K => ?_
   refine o1 K (os_pick rfl rfl rfl) rfl fun _ K => ?_
   refine o1 K (os_assign rfl) rfl fun _ K => ?_
   refine wr_nil ?_
   show W _ _ _ _ _ _ _
   refine w_ret ?_
   refine ⟨.inr rfl, _, (res_one (rs_tmp K rfl)), ?_⟩
   refine ⟨?_, M.qt⟩
   simp_all [bif', hasB] <;> first | done | rfl | omega | (congr 1; done) | (congr 2; done) | (intros; omega)
 replace e14 := of_decide_eq_true e14
 refine og K rfl rfl (os_move rfl) rfl fun _ K => ?_
 refine oGB K rfl rfl (os_move rfl) rfl fun b16 _ e16 K => ?_
 cases b16
 · refine og K rfl rfl (os_fieldAddr fo_api_Node_1 rfl) rfl fun _ K => ?_
   refine og K rfl rfl (os_load rfl (M.load (k := 0) rfl (part_one tk_string rfl))) rfl fun _ K => ?_
   refine og K rfl rfl (os_eqS (b := []) rfl rfl) rfl fun _ K => ?_
   refine og K rfl rfl (os_pick rfl rfl rfl) rfl fun _ K => ?_
   refine o1 K (os_pick rfl rfl rfl) rfl fun _ K => ?_
   refine oB K (os_move rfl) rfl fun b22 _ e22 K => ?_
   cases b22
   · replace e22 := of_decide_eq_false e22
     refine gn K rfl rfl rfl rfl fun _ K => ?_
     refine gn K rfl rfl rfl rfl fun _ K => ?_
     refine gnT K rfl rfl rfl fun _ K => ?_
     refine gnT K rfl rfl rfl fun _ K => ?_
     refine gnT K rfl rfl rfl fun _ K => ?_
     refine gn K rfl rfl rfl rfl fun _ K => ?_
     refine o1 K (os_pick rfl rfl rfl) rfl fun _ K => ?_
     refine o1 K (os_move rfl) rfl fun _ K => ?_
     refine gn K rfl rfl rfl rfl fun _ K => ?_
     refine gn K rfl rfl rfl rfl fun _ K => ?_
     refine gn K rfl rfl rfl rfl fun _ K => ?_
     refine gnT K rfl rfl rfl fun _ K => ?_
     refine gnT K rfl rfl rfl fun _ K => ?_
     refine gnT K rfl rfl rfl fun _ K => ?_
     refine gn K rfl rfl rfl rfl fun _ K => ?_
     refine o1 K (os_pick rfl rfl rfl) rfl fun _ K => ?_
     refine o1 K (os_assign rfl) rfl fun _ K => ?_
     refine wr_nil ?_
     show W _ _ _ _ _ _ _
     refine w_ret ?_
     refine ⟨.inr rfl, _, (res_one (rs_tmp K rfl)), ?_⟩
     refine ⟨?_, M.qt⟩
     simp_all [bif', hasB] <;> first | done | rfl | omega | (congr 1; done) | (congr 2; done) | (intros; omega)
   replace e22 := of_decide_eq_true e22
   refine og K rfl rfl (os_move rfl) rfl fun _ K => ?_
   refine oGB K rfl rfl (os_move rfl) rfl fun b24 _ e24 K => ?_
   cases b24
   · refine og K rfl rfl (os_fieldAddr fo_api_Node_2 rfl) rfl fun _ K => ?_
     refine og K rfl rfl (os_load rfl (M.load (k := 0) rfl (part_one tk_int rfl))) rfl fun _ K => ?_
     refine og K rfl rfl (os_eqI rfl rfl) rfl fun _ K => ?_
     refine og K rfl rfl (os_pick rfl rfl rfl) rfl fun _ K => ?_
     refine o1 K (os_pick rfl rfl rfl) rfl fun _ K => ?_
     refine oB K (os_move rfl) rfl fun b30 _ e30 K => ?_
     cases b30
     · replace e30 := of_decide_eq_false e30
       refine gn K rfl rfl rfl rfl fun _ K => ?_
       refine gn K rfl rfl rfl rfl fun _ K => ?_
       refine gn K rfl rfl rfl rfl fun _ K => ?_
       refine gnT K rfl rfl rfl fun _ K => ?_
       refine gnT K rfl rfl rfl fun _ K => ?_
       refine gnT K rfl rfl rfl fun _ K => ?_
       refine gn K rfl rfl rfl rfl fun _ K => ?_
       refine o1 K (os_pick rfl rfl rfl) rfl fun _ K => ?_
       refine o1 K (os_assign rfl) rfl fun _ K => ?_
       refine wr_nil ?_
       show W _ _ _ _ _ _ _
       refine w_ret ?_
       refine ⟨.inr rfl, _, (res_one (rs_tmp K rfl)), ?_⟩
       refine ⟨?_, M.qt⟩
       simp_all [bif', hasB] <;> first | done | rfl | omega | (congr 1; done) | (congr 2; done) | (intros; omega)
     replace e30 := of_decide_eq_true e30
     refine og K rfl rfl (os_move rfl) rfl fun _ K => ?_
     refine og K rfl rfl (os_not rfl) rfl fun _ K => ?_
     refine oGB K rfl rfl (os_move rfl) rfl fun b33 _ e33 K => ?_
     cases b33
     · replace e33 : (nm) = true := by simpa using e33
       refine og K rfl rfl (os_fieldAddr fo_api_Node_1 rfl) rfl fun _ K => ?_
       refine og K rfl rfl (os_load rfl (M.load (k := 0) rfl (part_one tk_string rfl))) rfl fun _ K => ?_
       obtain ⟨v36, st36, ev36, rfl, q36⟩ := risName_ev M.fresh s hb.2
       refine og K rfl rfl (os_call rfl ev36) rfl fun _ K => ?_
       replace M := M.quiet q36
       refine og K rfl rfl (os_pick rfl rfl rfl) rfl fun _ K => ?_
       refine o1 K (os_pick rfl rfl rfl) rfl fun _ K => ?_
       refine o1 K (os_assign rfl) rfl fun _ K => ?_
       refine wr_nil ?_
       show W _ _ _ _ _ _ _
       refine w_ret ?_
       refine ⟨.inr rfl, _, (res_one (rs_tmp K rfl)), ?_⟩
       refine ⟨?_, M.qt⟩
       simp_all [bif', hasB] <;> first | done | rfl | omega | (congr 1; done) | (congr 2; done) | (intros; omega)
     replace e33 : (nm) = false := by simpa using e33
     refine gn K rfl rfl rfl rfl fun _ K => ?_
     refine gn K rfl rfl rfl rfl fun _ K => ?_
     refine gn K rfl rfl rfl rfl fun _ K => ?_
     refine og K rfl rfl (os_pick rfl rfl rfl) rfl fun _ K => ?_
     refine o1 K (os_pick rfl rfl rfl) rfl fun _ K => ?_
     refine o1 K (os_assign rfl) rfl fun _ K => ?_
     refine wr_nil ?_
     show W _ _ _ _ _ _ _
     refine w_ret ?_
     refine ⟨.inr rfl, _, (res_one (rs_tmp K rfl)), ?_⟩
     refine ⟨?_, M.qt⟩
     simp_all [bif', hasB] <;> first | done | rfl | omega | (congr 1; done) | (congr 2; done) | (intros; omega)
   refine gn K rfl rfl rfl rfl fun _ K => ?_
   refine gn K rfl rfl rfl rfl fun _ K => ?_
   refine gn K rfl rfl rfl rfl fun _ K => ?_
   refine og K rfl rfl (os_pick rfl rfl rfl) rfl fun _ K => ?_
   refine o1 K (os_pick rfl rfl rfl) rfl fun _ K => ?_
   refine o1 K (os_move rfl) rfl fun _ K => ?_
   refine og K rfl rfl (os_move rfl) rfl fun _ K => ?_
   refine og K rfl rfl (os_not rfl) rfl fun _ K => ?_
   refine oGB K rfl rfl (os_move rfl) rfl fun b33 _ e33 K => ?_
   cases b33
   · replace e33 : (nm) = true := by simpa using e33
     refine og K rfl rfl (os_fieldAddr fo_api_Node_1 rfl) rfl fun _ K => ?_
     refine og K rfl rfl (os_load rfl (M.load (k := 0) rfl (part_one tk_string rfl))) rfl fun _ K => ?_
     obtain ⟨v36, st36, ev36, rfl, q36⟩ := risName_ev M.fresh s hb.2
     refine og K rfl rfl (os_call rfl ev36) rfl fun _ K => ?_
     replace M := M.quiet q36
     refine og K rfl rfl (os_pick rfl rfl rfl) rfl fun _ K => ?_
     refine o1 K (os_pick rfl rfl rfl) rfl fun _ K => ?_
     refine o1 K (os_assign rfl) rfl fun _ K => ?_
     refine wr_nil ?_
     show W _ _ _ _ _ _ _
     refine w_ret ?_
     refine ⟨.inr rfl, _, (res_one (rs_tmp K rfl)), ?_⟩
     refine ⟨?_, M.qt⟩
     simp_all [bif', hasB] <;> first | done | rfl | omega | (congr 1; done) | (congr 2; done) | (intros; omega)
   replace e33 : (nm) = false := by simpa using e33
   refine gn K rfl rfl rfl rfl fun _ K => ?_
   refine gn K rfl rfl rfl rfl fun _ K => ?_
   refine gn K rfl rfl rfl rfl fun _ K => ?_
   refine og K rfl rfl (os_pick rfl rfl rfl) rfl fun _ K => ?_
   refine o1 K (os_pick rfl rfl rfl) rfl fun _ K => ?_
   refine o1 K (os_assign rfl) rfl fun _ K => ?_
   refine wr_nil ?_
   show W _ _ _ _ _ _ _
   refine w_ret ?_
   refine ⟨.inr rfl, _, (res_one (rs_tmp K rfl)), ?_⟩
   refine ⟨?_, M.qt⟩
   simp_all [bif', hasB] <;> first | done | rfl | omega | (congr 1; done) | (congr 2; done) | (intros; omega)
 refine gn K rfl rfl rfl rfl fun _ K => ?_
 refine gn K rfl rfl rfl rfl fun _ K => ?_
 refine gn K rfl rfl rfl rfl fun _ K => ?_
 refine og K rfl rfl (os_pick rfl rfl rfl) rfl fun _ K => ?_
 refine o1 K (os_pick rfl rfl rfl) rfl fun _ K => ?_
 refine o1 K (os_move rfl) rfl fun _ K => ?_
 refine og K rfl rfl (os_move rfl) rfl fun _ K => ?_
 refine oGB K rfl rfl (os_move rfl) rfl fun b24 _ e24 K => ?_
 cases b24
 · refine og K rfl rfl (os_fieldAddr fo_api_Node_2 rfl) rfl fun _ K => ?_
   refine og K rfl rfl (os_load rfl (M.load (k := 0) rfl (part_one tk_int rfl))) rfl fun _ K => ?_
   refine og K rfl rfl (os_eqI rfl rfl) rfl fun _ K => ?_
   refine og K rfl rfl (os_pick rfl rfl rfl) rfl fun _ K => ?_
   refine o1 K (os_pick rfl rfl rfl) rfl fun _ K => ?_
   refine oB K (os_move rfl) rfl fun b30 _ e30 K => ?_
   cases b30
   · replace e30 := of_decide_eq_false e30
     refine gn K rfl rfl rfl rfl fun _ K => ?_
     refine gn K rfl rfl rfl rfl fun _ K => ?_
     refine gn K rfl rfl rfl rfl fun _ K => ?_
     refine gnT K rfl rfl rfl fun _ K => ?_
     refine gnT K rfl rfl rfl fun _ K => ?_
     refine gnT K rfl rfl rfl fun _ K => ?_
     refine gn K rfl rfl rfl rfl fun _ K => ?_
     refine o1 K (os_pick rfl rfl rfl) rfl fun _ K => ?_
     refine o1 K (os_assign rfl) rfl fun _ K => ?_
     refine wr_nil ?_
     show W _ _ _ _ _ _ _
     refine w_ret ?_
     refine ⟨.inr rfl, _, (res_one (rs_tmp K rfl)), ?_⟩
     refine ⟨?_, M.qt⟩
     simp_all [bif', hasB] <;> first | done | rfl | omega | (congr 1; done) | (congr 2; done) | (intros; omega)
   replace e30 := of_decide_eq_true e30
   refine og K rfl rfl (os_move rfl) rfl fun _ K => ?_
   refine og K rfl rfl (os_not rfl) rfl fun _ K => ?_
   refine oGB K rfl rfl (os_move rfl) rfl fun b33 _ e33 K => ?_
   cases b33
   · replace e33 : (nm) = true := by simpa using e33
     refine og K rfl rfl (os_fieldAddr fo_api_Node_1 rfl) rfl fun _ K => ?_
     refine og K rfl rfl (os_load rfl (M.load (k := 0) rfl (part_one tk_string rfl))) rfl fun _ K => ?_
     obtain ⟨v36, st36, ev36, rfl, q36⟩ := risName_ev M.fresh s hb.2
     refine og K rfl rfl (os_call rfl ev36) rfl fun _ K => ?_
     replace M := M.quiet q36
     refine og K rfl rfl (os_pick rfl rfl rfl) rfl fun _ K => ?_
     refine o1 K (os_pick rfl rfl rfl) rfl fun _ K => ?_
     refine o1 K (os_assign rfl) rfl fun _ K => ?_
     refine wr_nil ?_
     show W _ _ _ _ _ _ _
     refine w_ret ?_
     refine ⟨.inr rfl, _, (res_one (rs_tmp K rfl)), ?_⟩
     refine ⟨?_, M.qt⟩
     simp_all [bif', hasB] <;> first | done | rfl | omega | (congr 1; done) | (congr 2; done) | (intros; omega)
   replace e33 : (nm) = false := by simpa using e33
   refine gn K rfl rfl rfl rfl fun _ K => ?_
   refine gn K rfl rfl rfl rfl fun _ K => ?_
   refine gn K rfl rfl rfl rfl fun _ K => ?_
   refine og K rfl rfl (os_pick rfl rfl rfl) rfl fun _ K => ?_
   refine o1 K (os_pick rfl rfl rfl) rfl fun _ K => ?_
   refine o1 K (os_assign rfl) rfl fun _ K => ?_
   refine wr_nil ?_
   show W _ _ _ _ _ _ _
   refine w_ret ?_
   refine ⟨.inr rfl, _, (res_one (rs_tmp K rfl)), ?_⟩
   refine ⟨?_, M.qt⟩
   simp_all [bif', hasB] <;> first | done | rfl | omega | (congr 1; done) | (congr 2; done) | (intros; omega)
 refine gn K rfl rfl rfl rfl fun _ K => ?_
 refine gn K rfl rfl rfl rfl fun _ K => ?_
 refine gn K rfl rfl rfl rfl fun _ K => ?_
 refine og K rfl rfl (os_pick rfl rfl rfl) rfl fun _ K => ?_
 refine o1 K (os_pick rfl rfl rfl) rfl fun _ K => ?_
 refine o1 K (os_move rfl) rfl fun _ K => ?_
 refine og K rfl rfl (os_move rfl) rfl fun _ K => ?_
 refine og K rfl rfl (os_not rfl) rfl fun _ K => ?_
 refine oGB K rfl rfl (os_move rfl) rfl fun b33 _ e33 K => ?_
 cases b33
 · replace e33 : (nm) = true := by simpa using e33
   refine og K rfl rfl (os_fieldAddr fo_api_Node_1 rfl) rfl fun _ K => ?_
   refine og K rfl rfl (os_load rfl (M.load (k := 0) rfl (part_one tk_string rfl))) rfl fun _ K => ?_
   obtain ⟨v36, st36, ev36, rfl, q36⟩ := risName_ev M.fresh s hb.2
   refine og K rfl rfl (os_call rfl ev36) rfl fun _ K => ?_
   replace M := M.quiet q36
   refine og K rfl rfl (os_pick rfl rfl rfl) rfl fun _ K => ?_
   refine o1 K (os_pick rfl rfl rfl) rfl fun _ K => ?_
   refine o1 K (os_assign rfl) rfl fun _ K => ?_
   refine wr_nil ?_
   show W _ _ _ _ _ _ _
   refine w_ret ?_
   refine ⟨.inr rfl, _, (res_one (rs_tmp K rfl)), ?_⟩
   refine ⟨?_, M.qt⟩
   simp_all [bif', hasB] <;> first | done | rfl | omega | (congr 1; done) | (congr 2; done) | (intros; omega)
 replace e33 : (nm) = false := by simpa using e33
 refine gn K rfl rfl rfl rfl fun _ K => ?_
 refine gn K rfl rfl rfl rfl fun _ K => ?_
 refine gn K rfl rfl rfl rfl fun _ K => ?_
 refine og K rfl rfl (os_pick rfl rfl rfl) rfl fun _ K => ?_
 refine o1 K (os_pick rfl rfl rfl) rfl fun _ K => ?_
 refine o1 K (os_assign rfl) rfl fun _ K => ?_
 refine wr_nil ?_
 show W _ _ _ _ _ _ _
 refine w_ret ?_
 refine ⟨.inr rfl, _, (res_one (rs_tmp K rfl)), ?_⟩
 refine ⟨?_, M.qt⟩
 simp_all [bif', hasB] <;> first | done | rfl | omega | (congr 1; done) | (congr 2; done) | (intros; omega)

theorem KidsR.mem {h0 : Hp} {n0 : Nat} {st : St} {M : List (Nat × Nat × List AV)} {kids : List Nd} {kk : AV} {ls : List (List AV)} (H : KidsR h0 kids kk ls) (hM : Mem h0 n0 [] st M) : KidsR st.h.get kids kk ls :=
  ⟨H.r.mem hM (by simp), H.ln, fun i k hi => by
    obtain ⟨cs, h1, h2⟩ := H.at_ i k hi
    exact ⟨cs, h1, h2.mono hM.rows⟩⟩

theorem indexNd_ev {st : St} (hf : Fresh st) {fo : FuncId} {fa fc : List AV} {p : Nd → Bool} {l : List Nd} {kk : AV} {ls : List (List AV)} (hK : KidsR st.h.get l kk ls) (hC : ∀ (k : Nd), k ∈ l → ∀ (st1 : St) (cs : List AV), Qt st st1 → RdN st1.h.get k cs → ∃ v st', Ev Tryd.prog envD fo (fa ++ ([.agg cs] ++ fc)) st1 v st' ∧ v = .bool (p k) ∧ Qt st1 st') : ∃ v st', Ev Tryd.prog envD 106 [kk, (AV.fn fo fa fc)] st v st' ∧ v = .int .i64 (idxA p l 0) ∧ Qt st st' := by
 have hln := hK.ln
 have hbn := hK.bnd
 refine ev_fn rfl Tryd.func106 rfl Tryd.ntmps106 rfl (by decide) (by simp) fun T hT => ?_
 have K : KnT [(0, _), (1, _)] T := (.cons (hT 0) (.cons (hT 1) .nil))
 have M := Mem.start hf
 refine w_seq ?_
 refine w_region ?_
 refine o1 K (os_assign rfl) rfl fun _ K => ?_
 refine wr_nil ?_
 show W _ _ _ _ _ _ _
 refine w_seq ?_
 refine w_seq ?_
 refine w_region ?_
 refine o1 K (os_move rfl) rfl fun _ K => ?_
 refine o1 K (os_lenL un_S_api_Node rfl rfl hK.len) rfl fun _ K => ?_
 refine o1 K (os_move rfl) rfl fun _ K => ?_
 refine wr_nil ?_
 show W _ _ _ _ _ _ _
 refine w_block ?_
 refine w_loop (fun mm1 T st9 => ∃ (i : Nat), mm1 = l.length - i ∧ KnT [(0, kk), (1, (AV.fn fo fa fc)), (7, .int .i64 (((l.length : Nat) : Int))), (8, .int .i64 (((i : Nat) : Int)))] T ∧ Mem st.h.get st.n [] st9 [] ∧ i ≤ l.length ∧ idxA p l 0 = idxA p (l.drop i) i) (fun mm1 T st9 hI => ?_) _ _ _ ⟨0, rfl, (.cons (K _ _ rfl) (.cons (K _ _ rfl) (.cons (K _ _ rfl) (.cons (K _ _ rfl) .nil)))), M.less (.refl _), (Nat.zero_le _), rfl⟩
 obtain ⟨i, rfl, K, M, hi, hx⟩ := hI
 refine w_seq ?_
 refine w_region ?_
 refine o1 K (os_lss rfl rfl) rfl fun _ K => ?_
 refine wr_nil ?_
 show W _ _ _ _ _ _ _
 refine w_seq ?_
 refine w_cond (K.opd rfl) (fun h9 => ?_) (fun h9 => ?_)
 · have hb9 := h9
   replace h9 := of_decide_eq_true h9
   refine w_skip ?_
   show W _ _ _ _ _ _ _
   refine w_seq ?_
   refine w_block ?_
   refine w_seq ?_
   refine w_region ?_
   refine o1 K (os_move rfl) rfl fun _ K => ?_
   refine o1 K (os_assign rfl) rfl fun _ K => ?_
   refine wr_nil ?_
   show W _ _ _ _ _ _ _
   refine w_seq ?_
   refine w_region ?_
   refine o1 K (os_move rfl) rfl fun _ K => ?_
   refine o1 K (os_move rfl) rfl fun _ K => ?_
   refine o1 K (os_move rfl) rfl fun _ K => ?_
   obtain ⟨⟨o14, s14, z14, a14, l14⟩, hi14⟩ : ∃ k, l[i]? = some k := ⟨_, List.getElem?_eq_getElem (by first | omega | (have := bare_len (m := 1) (l := l) (by assumption); omega) | (have := bare_len (m := 2) (l := l) (by assumption); omega) | (have := has_len (m := 1) (l := l) (by assumption); omega))⟩
   have hm14 := kids_mem hi14
   obtain ⟨_, hc14, hn14⟩ := hK.at_ _ _ hi14
   have hp14 := hn14
   obtain ⟨kk14, ls14, rfl, hK14, hb14⟩ := hp14.open5
   obtain ⟨x14, m14, f14, q14, _, la14, lo14, lp14⟩ := (hK.r.mem M (by simp)).load (i := i) (cs := _) hc14
   refine o1 K (os_indexAddr (j := i) el_S_api_Node (congrArg some q14) rfl (by rw [hK.ln]; first | omega | (have := bare_len (m := 1) (l := l) (by assumption); omega) | (have := bare_len (m := 2) (l := l) (by assumption); omega) | (have := has_len (m := 1) (l := l) (by assumption); omega))) rfl fun _ K => ?_
   refine o1 K (os_load rfl (la14 _ tk_api_Node)) rfl fun _ K => ?_
   obtain ⟨v16, st16, ev16, rfl, q16⟩ := hC (.mk o14 s14 z14 a14 l14) hm14 _ _ M.qt (hn14.mono M.rows)
   refine o1 K (os_callv rfl rfl ev16) rfl fun _ K => ?_
   replace M := M.quiet q16
   refine wr_nil ?_
   show W _ _ _ _ _ _ _
   refine w_cond (K.opd rfl) (fun h16 => ?_) (fun h16 => ?_)
   · have hb16 := h16
     refine w_seq ?_
     refine w_region ?_
     refine o1 K (os_move rfl) rfl fun _ K => ?_
     refine o1 K (os_assign rfl) rfl fun _ K => ?_
     refine wr_nil ?_
     show W _ _ _ _ _ _ _
     refine w_ret ?_
     refine ⟨.inr rfl, _, (res_one (rs_tmp K rfl)), ?_⟩
     exact ⟨by rw [hx, idxA_step hi14, if_pos h16], M.qt⟩
   have hb16 := h16
   refine w_skip ?_
   show W _ _ _ _ _ _ _
   refine w_region ?_
   refine o1 K (os_add rfl rfl (by omega) (by omega)) rfl fun _ K => ?_
   refine o1 K (os_move rfl) rfl fun _ K => ?_
   refine wr_nil ?_
   exact ⟨_, (by omega), i + 1, rfl, (.cons (K _ _ rfl) (.cons (K _ _ rfl) (.cons (K _ _ rfl) (.cons (K _ _ rfl) .nil)))), M.less (.refl _), (by omega), (by rw [hx, idxA_step hi14, if_neg (by rw [h16]; decide)])⟩
 have hb9 := h9
 replace h9 := of_decide_eq_false h9
 refine w_exit ?_
 show W _ _ _ _ _ _ _
 refine w_seq ?_
 refine w_region ?_
 refine o1 K (os_assign rfl) rfl fun _ K => ?_
 refine wr_nil ?_
 show W _ _ _ _ _ _ _
 refine w_ret ?_
 refine ⟨.inr rfl, _, (res_one (rs_tmp K rfl)), ?_⟩
 exact ⟨by rw [hx, drop_end (by omega)]; rfl, M.qt⟩

theorem containsNd_ev {st : St} (hf : Fresh st) {fo : FuncId} {fa fc : List AV} {p : Nd → Bool} {l : List Nd} {kk : AV} {ls : List (List AV)} (hK : KidsR st.h.get l kk ls) (hC : ∀ (k : Nd), k ∈ l → ∀ (st1 : St) (cs : List AV), Qt st st1 → RdN st1.h.get k cs → ∃ v st', Ev Tryd.prog envD fo (fa ++ ([.agg cs] ++ fc)) st1 v st' ∧ v = .bool (p k) ∧ Qt st1 st') : ∃ v st', Ev Tryd.prog envD 76 [kk, (AV.fn fo fa fc)] st v st' ∧ v = .bool (l.any p) ∧ Qt st st' := by
 have hln := hK.ln
 have hbn := hK.bnd
 refine ev_fn rfl Tryd.func76 rfl Tryd.ntmps76 rfl (by decide) (by simp) fun T hT => ?_
 have K : KnT [(0, _), (1, _)] T := (.cons (hT 0) (.cons (hT 1) .nil))
 have M := Mem.start hf
 refine w_seq ?_
 refine w_region ?_
 refine o1 K (os_assign rfl) rfl fun _ K => ?_
 refine wr_nil ?_
 show W _ _ _ _ _ _ _
 refine w_seq ?_
 refine w_region ?_
 refine o1 K (os_move rfl) rfl fun _ K => ?_
 refine o1 K (os_move rfl) rfl fun _ K => ?_
 obtain ⟨v7, st7, ev7, rfl, q7⟩ := indexNd_ev M.fresh (hK.mem M) (fun k hk st1 cs q hr => hC k hk st1 cs (M.qt.trans q) hr)
 refine o1 K (os_call rfl ev7) rfl fun _ K => ?_
 replace M := M.quiet q7
 refine o1 K (os_geq rfl rfl) rfl fun _ K => ?_
 refine o1 K (os_assign rfl) rfl fun _ K => ?_
 refine wr_nil ?_
 show W _ _ _ _ _ _ _
 refine w_ret ?_
 refine ⟨.inr rfl, _, (res_one (rs_tmp K rfl)), ?_⟩
 exact ⟨by rw [← idxA_any p l 0], M.qt⟩

theorem all1_ev {o s : List Nat} {z a : Int} {l : List Nd} {st : St} {cs : List AV} (hf : Fresh st) (hr : RdN st.h.get (.mk o s z a l) cs) {c fo : Nat} (hc : RowV st.h.get c 0 [.fn fo [] []]) {b : Bool} (hC : ∀ (st1 : St), Qt st st1 → ∃ v st', Ev Tryd.prog envD fo [.agg cs] st1 v st' ∧ v = .bool b ∧ Qt st1 st') : ∃ v st', Ev Tryd.prog envD 77 [.agg cs, .ptr c 0 0] st v st' ∧ v = .bool (!b) ∧ Qt st st' := by
 have hr0 := hr
 obtain ⟨kk, ls, rfl, hK, hb⟩ := hr.open5
 have hln := hK.ln
 have hbn := hK.bnd
 refine ev_fn rfl Tryd.func77 rfl Tryd.ntmps77 rfl (by decide) (by simp) fun T hT => ?_
 have K : KnT [(0, _), (1, _)] T := (.cons (hT 0) (.cons (hT 1) .nil))
 have M := Mem.start hf
 refine w_seq ?_
 refine w_region ?_
 refine wr_box K M rfl (cl_cons rfl (cl_cons rfl (cl_cons rfl (cl_cons rfl (cl_cons hK.cell cl_nil))))) (by decide) fun c2 _ _ K M => ?_
 refine o1 K (os_assign rfl) rfl fun _ K => ?_
 refine wr_nil ?_
 show W _ _ _ _ _ _ _
 refine w_seq ?_
 refine w_region ?_
 refine o1 K (os_load rfl (ld_row (hc.chg hf (M.qt.chg []) (by simp)) (part_one tk_func_api_Node__bool rfl))) rfl fun _ K => ?_
 refine o1 K (os_load rfl (M.load (k := 0) rfl (part_agg tk_api_Node rfl))) rfl fun _ K => ?_
 obtain ⟨v6, st6, ev6, rfl, q6⟩ := hC _ M.qt
 refine o1 K (os_callv rfl rfl ev6) rfl fun _ K => ?_
 replace M := M.quiet q6
 refine o1 K (os_not rfl) rfl fun _ K => ?_
 refine o1 K (os_assign rfl) rfl fun _ K => ?_
 refine wr_nil ?_
 show W _ _ _ _ _ _ _
 refine w_ret ?_
 refine ⟨.inr rfl, _, (res_one (rs_tmp K rfl)), ?_⟩
 exact ⟨rfl, M.qt⟩

theorem all_ev {o s : List Nat} {z a : Int} {l : List Nd} {st : St} {cs : List AV} (hf : Fresh st) (hr : RdN st.h.get (.mk o s z a l) cs) {fo : FuncId} {p : Nd → Bool} (hC : ∀ (k : Nd), k ∈ l → ∀ (st1 : St) (cs : List AV), Fresh st1 → RdN st1.h.get k cs → ∃ v st', Ev Tryd.prog envD fo [.agg cs] st1 v st' ∧ v = .bool (p k) ∧ Qt st1 st') : ∃ v st', Ev Tryd.prog envD 54 [.agg cs, (AV.fn fo [] [])] st v st' ∧ v = .bool (l.all p) ∧ Qt st st' := by
 have hr0 := hr
 obtain ⟨kk, ls, rfl, hK, hb⟩ := hr.open5
 have hln := hK.ln
 have hbn := hK.bnd
 refine ev_fn rfl Tryd.func54 rfl Tryd.ntmps54 rfl (by decide) (by simp) fun T hT => ?_
 have K : KnT [(0, _), (1, _)] T := (.cons (hT 0) (.cons (hT 1) .nil))
 have M := Mem.start hf
 refine w_seq ?_
 refine w_region ?_
 refine wr_box K M rfl (cl_cons rfl (cl_cons rfl (cl_cons rfl (cl_cons rfl (cl_cons hK.cell cl_nil))))) (by decide) fun c2 _ _ K M => ?_
 refine wr_box K M rfl rfl (by decide) fun c3 _ _ K M => ?_
 refine o1 K (os_assign rfl) rfl fun _ K => ?_
 refine wr_nil ?_
 show W _ _ _ _ _ _ _
 refine w_seq ?_
 refine w_region ?_
 refine o1 K (os_fieldAddr fo_api_Node_4 rfl) rfl fun _ K => ?_
 refine o1 K (os_load rfl (M.load (k := 1) rfl (part_one tk_S_api_Node rfl))) rfl fun _ K => ?_
 refine o1 K (os_func rfl rfl) rfl fun _ K => ?_
 have hrow := (M.row1 (k := 0) rfl).rowV
 have hfr := M.fresh
 obtain ⟨v8, st8, ev8, rfl, q8⟩ := containsNd_ev (fo := 77) (fa := []) (fc := [.ptr c3 0 0]) (p := fun k => !p k) M.fresh (hK.mem M) (fun k hk st1 cs q hr1 => by
   obtain ⟨ko, ks, kv, ka, kl⟩ := k
   exact all1_ev q.fresh hr1 (hrow.chg hfr (q.chg []) (by simp)) (fun st2 q2 => hC _ hk st2 cs q2.fresh (hr1.qt q.fresh q2)))
 refine o1 K (os_call rfl ev8) rfl fun _ K => ?_
 replace M := M.quiet q8
 refine o1 K (os_not rfl) rfl fun _ K => ?_
 refine o1 K (os_assign rfl) rfl fun _ K => ?_
 refine wr_nil ?_
 show W _ _ _ _ _ _ _
 refine w_ret ?_
 refine ⟨.inr rfl, _, (res_one (rs_tmp K rfl)), ?_⟩
 exact ⟨by rw [not_any], M.qt⟩

theorem isPart_ev {o s : List Nat} {z a : Int} {l : List Nd} {st : St} {cs : List AV} (hf : Fresh st) (hr : RdN st.h.get (.mk o s z a l) cs) (hTm : ∀ (st1 : St) (cs : List AV), Fresh st1 → RdN st1.h.get (.mk o s z a l) cs → ∃ v st', Ev Tryd.prog envD 36 [.agg cs] st1 v st' ∧ v = .bool (termN (.mk o s z a l)) ∧ Qt st1 st') : ∃ v st', Ev Tryd.prog envD 59 [.agg cs] st v st' ∧ v = .bool (partB (.mk o s z a l)) ∧ Qt st st' := by
 have hr0 := hr
 obtain ⟨kk, ls, rfl, hK, hb⟩ := hr.open5
 have hln := hK.ln
 have hbn := hK.bnd
 refine ev_fn rfl Tryd.func59 rfl Tryd.ntmps59 rfl (by decide) (by simp) fun T hT => ?_
 have K : KnT [(0, _)] T := (.cons (hT 0) .nil)
 have M := Mem.start hf
 refine w_seq ?_
 refine w_region ?_
 refine wr_box K M rfl (cl_cons rfl (cl_cons rfl (cl_cons rfl (cl_cons rfl (cl_cons hK.cell cl_nil))))) (by decide) fun c1 _ _ K M => ?_
 refine o1 K (os_assign rfl) rfl fun _ K => ?_
 refine wr_nil ?_
 show W _ _ _ _ _ _ _
 refine w_seq ?_
 refine w_region ?_
 refine o1 K (os_load rfl (M.load (k := 0) rfl (part_agg tk_api_Node rfl))) rfl fun _ K => ?_
 obtain ⟨v4, st4, ev4, rfl, q4⟩ := hTm _ _ M.fresh (hr0.mono M.rows)
 refine o1 K (os_call rfl ev4) rfl fun _ K => ?_
 replace M := M.quiet q4
 refine oB K (os_move rfl) rfl fun b5 _ e5 K => ?_
 cases b5
 · refine gn K rfl rfl rfl rfl fun _ K => ?_
   refine gn K rfl rfl rfl rfl fun _ K => ?_
   refine gn K rfl rfl rfl rfl fun _ K => ?_
   refine o1 K (os_pick rfl rfl rfl) rfl fun _ K => ?_
   refine o1 K (os_move rfl) rfl fun _ K => ?_
   refine gn K rfl rfl rfl rfl fun _ K => ?_
   refine gn K rfl rfl rfl rfl fun _ K => ?_
   refine gn K rfl rfl rfl rfl fun _ K => ?_
   refine o1 K (os_pick rfl rfl rfl) rfl fun _ K => ?_
   refine o1 K (os_assign rfl) rfl fun _ K => ?_
   refine wr_nil ?_
   show W _ _ _ _ _ _ _
   refine w_ret ?_
   refine ⟨.inr rfl, _, (res_one (rs_tmp K rfl)), ?_⟩
   refine ⟨?_, M.qt⟩
   simp_all [bif', partB, Nd.op, oSet] <;> first | done | rfl | omega | (congr 1; done) | (congr 2; done) | (intros; omega)
 refine og K rfl rfl (os_load rfl (M.load (k := 0) rfl (part_agg tk_api_Node rfl))) rfl fun _ K => ?_
 obtain ⟨v7, st7, ev7, rfl, q7⟩ := isSet_ev M.fresh (hr0.mono M.rows)
 refine og K rfl rfl (os_call rfl ev7) rfl fun _ K => ?_
 replace M := M.quiet q7
 refine og K rfl rfl (os_not rfl) rfl fun _ K => ?_
 refine o1 K (os_pick rfl rfl rfl) rfl fun _ K => ?_
 refine oB K (os_move rfl) rfl fun b10 _ e10 K => ?_
 cases b10
 · replace e10 : (isSetB o) = true := by simpa using e10
   refine gn K rfl rfl rfl rfl fun _ K => ?_
   refine gn K rfl rfl rfl rfl fun _ K => ?_
   refine gn K rfl rfl rfl rfl fun _ K => ?_
   refine o1 K (os_pick rfl rfl rfl) rfl fun _ K => ?_
   refine o1 K (os_assign rfl) rfl fun _ K => ?_
   refine wr_nil ?_
   show W _ _ _ _ _ _ _
   refine w_ret ?_
   refine ⟨.inr rfl, _, (res_one (rs_tmp K rfl)), ?_⟩
   refine ⟨?_, M.qt⟩
   simp_all [bif', partB, Nd.op, oSet] <;> first | done | rfl | omega | (congr 1; done) | (congr 2; done) | (intros; omega)
 replace e10 : (isSetB o) = false := by simpa using e10
 refine og K rfl rfl (os_fieldAddr fo_api_Node_0 rfl) rfl fun _ K => ?_
 refine og K rfl rfl (os_load rfl (M.load (k := 0) rfl (part_one tk_string rfl))) rfl fun _ K => ?_
 refine og K rfl rfl (os_neS (b := [115, 101, 116]) rfl rfl) rfl fun _ K => ?_
 refine o1 K (os_pick rfl rfl rfl) rfl fun _ K => ?_
 refine o1 K (os_assign rfl) rfl fun _ K => ?_
 refine wr_nil ?_
 show W _ _ _ _ _ _ _
 refine w_ret ?_
 refine ⟨.inr rfl, _, (res_one (rs_tmp K rfl)), ?_⟩
 refine ⟨?_, M.qt⟩
 simp_all [bif', partB, Nd.op, oSet] <;> first | done | rfl | omega | (congr 1; done) | (congr 2; done) | (intros; omega)

theorem isTerm_ev (x : Nd) : ∀ (st : St) (cs : List AV), Fresh st → RdN st.h.get x cs → ∃ v st', Ev Tryd.prog envD 36 [.agg cs] st v st' ∧ v = .bool (termN x) ∧ Qt st st' := by
 refine nd_rec (M := fun x => ∀ (st : St) (cs : List AV), Fresh st → RdN st.h.get x cs → ∃ v st', Ev Tryd.prog envD 36 [.agg cs] st v st' ∧ v = .bool (termN x) ∧ Qt st st') (fun o s z a l ih => ?_) x
 intro st cs hf hr
 have hr0 := hr
 obtain ⟨kk, ls, rfl, hK, hb⟩ := hr.open5
 have hln := hK.ln
 have hbn := hK.bnd
 refine ev_fn rfl Tryd.func36 rfl Tryd.ntmps36 rfl (by decide) (by simp) fun T hT => ?_
 have K : KnT [(0, _)] T := (.cons (hT 0) .nil)
 have M := Mem.start hf
 refine w_seq ?_
 refine w_region ?_
 refine wr_box K M rfl (cl_cons rfl (cl_cons rfl (cl_cons rfl (cl_cons rfl (cl_cons hK.cell cl_nil))))) (by decide) fun c1 _ _ K M => ?_
 refine o1 K (os_assign rfl) rfl fun _ K => ?_
 refine wr_nil ?_
 show W _ _ _ _ _ _ _
 refine w_seq ?_
 refine w_seq ?_
 refine w_region ?_
 refine o1 K (os_fieldAddr fo_api_Node_0 rfl) rfl fun _ K => ?_
 refine o1 K (os_load rfl (M.load (k := 0) rfl (part_one tk_string rfl))) rfl fun _ K => ?_
 refine wr_nil ?_
 show W _ _ _ _ _ _ _
 refine w_block ?_
 refine w_seq ?_
 refine w_region ?_
 refine o1 K (os_eqS (b := [118, 97, 114]) rfl rfl) rfl fun _ K => ?_
 refine o1 K (os_assign rfl) rfl fun _ K => ?_
 refine wr_nil ?_
 show W _ _ _ _ _ _ _
 refine w_cond (K.opd rfl) (fun h5 => ?_) (fun h5 => ?_)
 · have hb5 := h5
   replace h5 := of_decide_eq_true h5
   refine w_seq ?_
   refine w_region ?_
   refine o1 K (os_fieldAddr fo_api_Node_1 rfl) rfl fun _ K => ?_
   refine o1 K (os_load rfl (M.load (k := 0) rfl (part_one tk_string rfl))) rfl fun _ K => ?_
   obtain ⟨v9, st9, ev9, rfl, q9⟩ := isName_ev M.fresh s
   refine o1 K (os_call rfl ev9) rfl fun _ K => ?_
   replace M := M.quiet q9
   refine oB K (os_move rfl) rfl fun b10 _ e10 K => ?_
   cases b10
   · refine gn K rfl rfl rfl rfl fun _ K => ?_
     refine gn K rfl rfl rfl rfl fun _ K => ?_
     refine gn K rfl rfl rfl rfl fun _ K => ?_
     refine o1 K (os_pick rfl rfl rfl) rfl fun _ K => ?_
     refine o1 K (os_move rfl) rfl fun _ K => ?_
     refine gn K rfl rfl rfl rfl fun _ K => ?_
     refine gn K rfl rfl rfl rfl fun _ K => ?_
     refine gn K rfl rfl rfl rfl fun _ K => ?_
     refine gn K rfl rfl rfl rfl fun _ K => ?_
     refine o1 K (os_pick rfl rfl rfl) rfl fun _ K => ?_
     refine o1 K (os_assign rfl) rfl fun _ K => ?_
     refine wr_nil ?_
     show W _ _ _ _ _ _ _
     refine w_ret ?_
     refine ⟨.inr rfl, _, (res_one (rs_tmp K rfl)), ?_⟩
     refine ⟨congrArg AV.bool ?_, M.qt⟩
     rw [termN_mk o s z a l]
     try generalize l.all termN = q1 at *
     try generalize l.all partB = q2 at *
     try clear M
     try clear ih
     try clear hr
     try clear hr0
     try clear hp
     try clear hn
     try clear hK
     try clear hb
     try clear hc
     try clear hm
     try clear hln
     try clear hbn
     try clear hf
     try (obtain hk := one_kid (by assumption) (by assumption); subst hk)
     simp_all [bif', oVar, oNum, oPlus, oSet, isSetB, bareB, hasB, Nd.op] <;> first | done | rfl | omega | (congr 1; done) | (congr 2; done) | (intros; omega)
   refine og K rfl rfl (os_fieldAddr fo_api_Node_2 rfl) rfl fun _ K => ?_
   refine og K rfl rfl (os_load rfl (M.load (k := 0) rfl (part_one tk_int rfl))) rfl fun _ K => ?_
   refine og K rfl rfl (os_eqI rfl rfl) rfl fun _ K => ?_
   refine o1 K (os_pick rfl rfl rfl) rfl fun _ K => ?_
   refine oB K (os_move rfl) rfl fun b15 _ e15 K => ?_
   cases b15
   · replace e15 := of_decide_eq_false e15
     refine gn K rfl rfl rfl rfl fun _ K => ?_
     refine gn K rfl rfl rfl rfl fun _ K => ?_
     refine gn K rfl rfl rfl rfl fun _ K => ?_
     refine gn K rfl rfl rfl rfl fun _ K => ?_
     refine o1 K (os_pick rfl rfl rfl) rfl fun _ K => ?_
     refine o1 K (os_assign rfl) rfl fun _ K => ?_
     refine wr_nil ?_
     show W _ _ _ _ _ _ _
     refine w_ret ?_
     refine ⟨.inr rfl, _, (res_one (rs_tmp K rfl)), ?_⟩
     refine ⟨congrArg AV.bool ?_, M.qt⟩
     rw [termN_mk o s z a l]
     try generalize l.all termN = q1 at *
     try generalize l.all partB = q2 at *
     try clear M
     try clear ih
     try clear hr
     try clear hr0
     try clear hp
     try clear hn
     try clear hK
     try clear hb
     try clear hc
     try clear hm
     try clear hln
     try clear hbn
     try clear hf
     try (obtain hk := one_kid (by assumption) (by assumption); subst hk)
     simp_all [bif', oVar, oNum, oPlus, oSet, isSetB, bareB, hasB, Nd.op] <;> first | done | rfl | omega | (congr 1; done) | (congr 2; done) | (intros; omega)
   replace e15 := of_decide_eq_true e15
   refine og K rfl rfl (os_fieldAddr fo_api_Node_4 rfl) rfl fun _ K => ?_
   refine og K rfl rfl (os_load rfl (M.load (k := 0) rfl (part_one tk_S_api_Node rfl))) rfl fun _ K => ?_
   refine og K rfl rfl (os_lenL un_S_api_Node rfl rfl hK.len) rfl fun _ K => ?_
   refine og K rfl rfl (os_eqI rfl rfl) rfl fun _ K => ?_
   refine o1 K (os_pick rfl rfl rfl) rfl fun _ K => ?_
   refine o1 K (os_assign rfl) rfl fun _ K => ?_
   refine wr_nil ?_
   show W _ _ _ _ _ _ _
   refine w_ret ?_
   refine ⟨.inr rfl, _, (res_one (rs_tmp K rfl)), ?_⟩
   refine ⟨congrArg AV.bool ?_, M.qt⟩
   rw [termN_mk o s z a l]
   try generalize l.all termN = q1 at *
   try generalize l.all partB = q2 at *
   try clear M
   try clear ih
   try clear hr
   try clear hr0
   try clear hp
   try clear hn
   try clear hK
   try clear hb
   try clear hc
   try clear hm
   try clear hln
   try clear hbn
   try clear hf
   try (obtain hk := one_kid (by assumption) (by assumption); subst hk)
   simp_all [bif', oVar, oNum, oPlus, oSet, isSetB, bareB, hasB, Nd.op] <;> first | done | rfl | omega | (congr 1; done) | (congr 2; done) | (intros; omega)
 have hb5 := h5
 replace h5 := of_decide_eq_false h5
 refine w_seq ?_
 refine w_region ?_
 refine o1 K (os_eqS (b := [110, 117, 109]) rfl rfl) rfl fun _ K => ?_
 refine o1 K (os_assign rfl) rfl fun _ K => ?_
 refine wr_nil ?_
 show W _ _ _ _ _ _ _
 refine w_cond (K.opd rfl) (fun h21 => ?_) (fun h21 => ?_)
 · have hb21 := h21
   replace h21 := of_decide_eq_true h21
   refine w_seq ?_
   refine w_region ?_
   refine o1 K (os_fieldAddr fo_api_Node_1 rfl) rfl fun _ K => ?_
   refine o1 K (os_load rfl (M.load (k := 0) rfl (part_one tk_string rfl))) rfl fun _ K => ?_
   refine o1 K (os_eqS (b := []) rfl rfl) rfl fun _ K => ?_
   refine oB K (os_move rfl) rfl fun b26 _ e26 K => ?_
   cases b26
   · replace e26 := of_decide_eq_false e26
     refine gn K rfl rfl rfl rfl fun _ K => ?_
     refine gn K rfl rfl rfl rfl fun _ K => ?_
     refine gn K rfl rfl rfl rfl fun _ K => ?_
     refine o1 K (os_pick rfl rfl rfl) rfl fun _ K => ?_
     refine o1 K (os_move rfl) rfl fun _ K => ?_
     refine gn K rfl rfl rfl rfl fun _ K => ?_
     refine gn K rfl rfl rfl rfl fun _ K => ?_
     refine gn K rfl rfl rfl rfl fun _ K => ?_
     refine o1 K (os_pick rfl rfl rfl) rfl fun _ K => ?_
     refine o1 K (os_move rfl) rfl fun _ K => ?_
     refine gn K rfl rfl rfl rfl fun _ K => ?_
     refine gn K rfl rfl rfl rfl fun _ K => ?_
     refine gn K rfl rfl rfl rfl fun _ K => ?_
     refine gn K rfl rfl rfl rfl fun _ K => ?_
     refine o1 K (os_pick rfl rfl rfl) rfl fun _ K => ?_
     refine o1 K (os_assign rfl) rfl fun _ K => ?_
     refine wr_nil ?_
     show W _ _ _ _ _ _ _
     refine w_ret ?_
     refine ⟨.inr rfl, _, (res_one (rs_tmp K rfl)), ?_⟩
     refine ⟨congrArg AV.bool ?_, M.qt⟩
     rw [termN_mk o s z a l]
     try generalize l.all termN = q1 at *
     try generalize l.all partB = q2 at *
     try clear M
     try clear ih
     try clear hr
     try clear hr0
     try clear hp
     try clear hn
     try clear hK
     try clear hb
     try clear hc
     try clear hm
     try clear hln
     try clear hbn
     try clear hf
     try (obtain hk := one_kid (by assumption) (by assumption); subst hk)
     simp_all [bif', oVar, oNum, oPlus, oSet, isSetB, bareB, hasB, Nd.op] <;> first | done | rfl | omega | (congr 1; done) | (congr 2; done) | (intros; omega)
   replace e26 := of_decide_eq_true e26
   refine og K rfl rfl (os_fieldAddr fo_api_Node_2 rfl) rfl fun _ K => ?_
   refine og K rfl rfl (os_load rfl (M.load (k := 0) rfl (part_one tk_int rfl))) rfl fun _ K => ?_
   refine og K rfl rfl (os_geq rfl rfl) rfl fun _ K => ?_
   refine o1 K (os_pick rfl rfl rfl) rfl fun _ K => ?_
   refine oB K (os_move rfl) rfl fun b31 _ e31 K => ?_
   cases b31
   · replace e31 := of_decide_eq_false e31
     refine gn K rfl rfl rfl rfl fun _ K => ?_
     refine gn K rfl rfl rfl rfl fun _ K => ?_
     refine gn K rfl rfl rfl rfl fun _ K => ?_
     refine o1 K (os_pick rfl rfl rfl) rfl fun _ K => ?_
     refine o1 K (os_move rfl) rfl fun _ K => ?_
     refine gn K rfl rfl rfl rfl fun _ K => ?_
     refine gn K rfl rfl rfl rfl fun _ K => ?_
     refine gn K rfl rfl rfl rfl fun _ K => ?_
     refine gn K rfl rfl rfl rfl fun _ K => ?_
     refine o1 K (os_pick rfl rfl rfl) rfl fun _ K => ?_
     refine o1 K (os_assign rfl) rfl fun _ K => ?_
     refine wr_nil ?_
     show W _ _ _ _ _ _ _
     refine w_ret ?_
     refine ⟨.inr rfl, _, (res_one (rs_tmp K rfl)), ?_⟩
     refine ⟨congrArg AV.bool ?_, M.qt⟩
     rw [termN_mk o s z a l]
     try generalize l.all termN = q1 at *
     try generalize l.all partB = q2 at *
     try clear M
     try clear ih
     try clear hr
     try clear hr0
     try clear hp
     try clear hn
     try clear hK
     try clear hb
     try clear hc
     try clear hm
     try clear hln
     try clear hbn
     try clear hf
     try (obtain hk := one_kid (by assumption) (by assumption); subst hk)
     simp_all [bif', oVar, oNum, oPlus, oSet, isSetB, bareB, hasB, Nd.op] <;> first | done | rfl | omega | (congr 1; done) | (congr 2; done) | (intros; omega)
   replace e31 := of_decide_eq_true e31
   refine og K rfl rfl (os_fieldAddr fo_api_Node_2 rfl) rfl fun _ K => ?_
   refine og K rfl rfl (os_load rfl (M.load (k := 0) rfl (part_one tk_int rfl))) rfl fun _ K => ?_
   refine og K rfl rfl (os_leq rfl rfl) rfl fun _ K => ?_
   refine o1 K (os_pick rfl rfl rfl) rfl fun _ K => ?_
   refine oB K (os_move rfl) rfl fun b36 _ e36 K => ?_
   cases b36
   · replace e36 := of_decide_eq_false e36
     refine gn K rfl rfl rfl rfl fun _ K => ?_
     refine gn K rfl rfl rfl rfl fun _ K => ?_
     refine gn K rfl rfl rfl rfl fun _ K => ?_
     refine gn K rfl rfl rfl rfl fun _ K => ?_
     refine o1 K (os_pick rfl rfl rfl) rfl fun _ K => ?_
     refine o1 K (os_assign rfl) rfl fun _ K => ?_
     refine wr_nil ?_
     show W _ _ _ _ _ _ _
     refine w_ret ?_
     refine ⟨.inr rfl, _, (res_one (rs_tmp K rfl)), ?_⟩
     refine ⟨congrArg AV.bool ?_, M.qt⟩
     rw [termN_mk o s z a l]
     try generalize l.all termN = q1 at *
     try generalize l.all partB = q2 at *
     try clear M
     try clear ih
     try clear hr
     try clear hr0
     try clear hp
     try clear hn
     try clear hK
     try clear hb
     try clear hc
     try clear hm
     try clear hln
     try clear hbn
     try clear hf
     try (obtain hk := one_kid (by assumption) (by assumption); subst hk)
     simp_all [bif', oVar, oNum, oPlus, oSet, isSetB, bareB, hasB, Nd.op] <;> first | done | rfl | omega | (congr 1; done) | (congr 2; done) | (intros; omega)
   replace e36 := of_decide_eq_true e36
   refine og K rfl rfl (os_fieldAddr fo_api_Node_4 rfl) rfl fun _ K => ?_
   refine og K rfl rfl (os_load rfl (M.load (k := 0) rfl (part_one tk_S_api_Node rfl))) rfl fun _ K => ?_
   refine og K rfl rfl (os_lenL un_S_api_Node rfl rfl hK.len) rfl fun _ K => ?_
   refine og K rfl rfl (os_eqI rfl rfl) rfl fun _ K => ?_
   refine o1 K (os_pick rfl rfl rfl) rfl fun _ K => ?_
   refine o1 K (os_assign rfl) rfl fun _ K => ?_
   refine wr_nil ?_
   show W _ _ _ _ _ _ _
   refine w_ret ?_
   refine ⟨.inr rfl, _, (res_one (rs_tmp K rfl)), ?_⟩
   refine ⟨congrArg AV.bool ?_, M.qt⟩
   rw [termN_mk o s z a l]
   try generalize l.all termN = q1 at *
   try generalize l.all partB = q2 at *
   try clear M
   try clear ih
   try clear hr
   try clear hr0
   try clear hp
   try clear hn
   try clear hK
   try clear hb
   try clear hc
   try clear hm
   try clear hln
   try clear hbn
   try clear hf
   try (obtain hk := one_kid (by assumption) (by assumption); subst hk)
   simp_all [bif', oVar, oNum, oPlus, oSet, isSetB, bareB, hasB, Nd.op] <;> first | done | rfl | omega | (congr 1; done) | (congr 2; done) | (intros; omega)
 have hb21 := h21
 replace h21 := of_decide_eq_false h21
 refine w_seq ?_
 refine w_region ?_
 refine o1 K (os_eqS (b := [112, 108, 117, 115]) rfl rfl) rfl fun _ K => ?_
 refine o1 K (os_assign rfl) rfl fun _ K => ?_
 refine wr_nil ?_
 show W _ _ _ _ _ _ _
 refine w_cond (K.opd rfl) (fun h42 => ?_) (fun h42 => ?_)
 · have hb42 := h42
   replace h42 := of_decide_eq_true h42
   refine w_seq ?_
   refine w_region ?_
   refine o1 K (os_fieldAddr fo_api_Node_1 rfl) rfl fun _ K => ?_
   refine o1 K (os_load rfl (M.load (k := 0) rfl (part_one tk_string rfl))) rfl fun _ K => ?_
   refine o1 K (os_eqS (b := []) rfl rfl) rfl fun _ K => ?_
   refine oB K (os_move rfl) rfl fun b47 _ e47 K => ?_
   cases b47
   · replace e47 := of_decide_eq_false e47
     refine gn K rfl rfl rfl rfl fun _ K => ?_
     refine gn K rfl rfl rfl rfl fun _ K => ?_
     refine gn K rfl rfl rfl rfl fun _ K => ?_
     refine o1 K (os_pick rfl rfl rfl) rfl fun _ K => ?_
     refine o1 K (os_move rfl) rfl fun _ K => ?_
     refine gn K rfl rfl rfl rfl fun _ K => ?_
     refine gn K rfl rfl rfl rfl fun _ K => ?_
     refine gn K rfl rfl rfl rfl fun _ K => ?_
     refine o1 K (os_pick rfl rfl rfl) rfl fun _ K => ?_
     refine o1 K (os_move rfl) rfl fun _ K => ?_
     refine gn K rfl rfl rfl rfl fun _ K => ?_
     refine gn K rfl rfl rfl rfl fun _ K => ?_
     refine gn K rfl rfl rfl rfl fun _ K => ?_
     refine gn K rfl rfl rfl rfl fun _ K => ?_
     refine o1 K (os_pick rfl rfl rfl) rfl fun _ K => ?_
     refine o1 K (os_move rfl) rfl fun _ K => ?_
     refine gn K rfl rfl rfl rfl fun _ K => ?_
     refine gn K rfl rfl rfl rfl fun _ K => ?_
     refine gn K rfl rfl rfl rfl fun _ K => ?_
     refine gn K rfl rfl rfl rfl fun _ K => ?_
     refine gn K rfl rfl rfl rfl fun _ K => ?_
     refine gn K rfl rfl rfl rfl fun _ K => ?_
     refine o1 K (os_pick rfl rfl rfl) rfl fun _ K => ?_
     refine o1 K (os_move rfl) rfl fun _ K => ?_
     refine gn K rfl rfl rfl rfl fun _ K => ?_
     refine gn K rfl rfl rfl rfl fun _ K => ?_
     refine gn K rfl rfl rfl rfl fun _ K => ?_
     refine gn K rfl rfl rfl rfl fun _ K => ?_
     refine gn K rfl rfl rfl rfl fun _ K => ?_
     refine o1 K (os_pick rfl rfl rfl) rfl fun _ K => ?_
     refine o1 K (os_assign rfl) rfl fun _ K => ?_
     refine wr_nil ?_
     show W _ _ _ _ _ _ _
     refine w_ret ?_
     refine ⟨.inr rfl, _, (res_one (rs_tmp K rfl)), ?_⟩
     refine ⟨congrArg AV.bool ?_, M.qt⟩
     rw [termN_mk o s z a l]
     try generalize l.all termN = q1 at *
     try generalize l.all partB = q2 at *
     try clear M
     try clear ih
     try clear hr
     try clear hr0
     try clear hp
     try clear hn
     try clear hK
     try clear hb
     try clear hc
     try clear hm
     try clear hln
     try clear hbn
     try clear hf
     try (obtain hk := one_kid (by assumption) (by assumption); subst hk)
     simp_all [bif', oVar, oNum, oPlus, oSet, isSetB, bareB, hasB, Nd.op] <;> first | done | rfl | omega | (congr 1; done) | (congr 2; done) | (intros; omega)
   replace e47 := of_decide_eq_true e47
   refine og K rfl rfl (os_fieldAddr fo_api_Node_2 rfl) rfl fun _ K => ?_
   refine og K rfl rfl (os_load rfl (M.load (k := 0) rfl (part_one tk_int rfl))) rfl fun _ K => ?_
   refine og K rfl rfl (os_geq rfl rfl) rfl fun _ K => ?_
   refine o1 K (os_pick rfl rfl rfl) rfl fun _ K => ?_
   refine oB K (os_move rfl) rfl fun b52 _ e52 K => ?_
   cases b52
   · replace e52 := of_decide_eq_false e52
     refine gn K rfl rfl rfl rfl fun _ K => ?_
     refine gn K rfl rfl rfl rfl fun _ K => ?_
     refine gn K rfl rfl rfl rfl fun _ K => ?_
     refine o1 K (os_pick rfl rfl rfl) rfl fun _ K => ?_
     refine o1 K (os_move rfl) rfl fun _ K => ?_
     refine gn K rfl rfl rfl rfl fun _ K => ?_
     refine gn K rfl rfl rfl rfl fun _ K => ?_
     refine gn K rfl rfl rfl rfl fun _ K => ?_
     refine gn K rfl rfl rfl rfl fun _ K => ?_
     refine o1 K (os_pick rfl rfl rfl) rfl fun _ K => ?_
     refine o1 K (os_move rfl) rfl fun _ K => ?_
     refine gn K rfl rfl rfl rfl fun _ K => ?_
     refine gn K rfl rfl rfl rfl fun _ K => ?_
     refine gn K rfl rfl rfl rfl fun _ K => ?_
     refine gn K rfl rfl rfl rfl fun _ K => ?_
     refine gn K rfl rfl rfl rfl fun _ K => ?_
     refine gn K rfl rfl rfl rfl fun _ K => ?_
     refine o1 K (os_pick rfl rfl rfl) rfl fun _ K => ?_
     refine o1 K (os_move rfl) rfl fun _ K => ?_
     refine gn K rfl rfl rfl rfl fun _ K => ?_
     refine gn K rfl rfl rfl rfl fun _ K => ?_
     refine gn K rfl rfl rfl rfl fun _ K => ?_
     refine gn K rfl rfl rfl rfl fun _ K => ?_
     refine gn K rfl rfl rfl rfl fun _ K => ?_
     refine o1 K (os_pick rfl rfl rfl) rfl fun _ K => ?_
     refine o1 K (os_assign rfl) rfl fun _ K => ?_
     refine wr_nil ?_
     show W _ _ _ _ _ _ _
     refine w_ret ?_
     refine ⟨.inr rfl, _, (res_one (rs_tmp K rfl)), ?_⟩
     refine ⟨congrArg AV.bool ?_, M.qt⟩
     rw [termN_mk o s z a l]
     try generalize l.all termN = q1 at *
     try generalize l.all partB = q2 at *
     try clear M
     try clear ih
     try clear hr
     try clear hr0
     try clear hp
     try clear hn
     try clear hK
     try clear hb
     try clear hc
     try clear hm
     try clear hln
     try clear hbn
     try clear hf
     try (obtain hk := one_kid (by assumption) (by assumption); subst hk)
     simp_all [bif', oVar, oNum, oPlus, oSet, isSetB, bareB, hasB, Nd.op] <;> first | done | rfl | omega | (congr 1; done) | (congr 2; done) | (intros; omega)
   replace e52 := of_decide_eq_true e52
   refine og K rfl rfl (os_fieldAddr fo_api_Node_2 rfl) rfl fun _ K => ?_
   refine og K rfl rfl (os_load rfl (M.load (k := 0) rfl (part_one tk_int rfl))) rfl fun _ K => ?_
   refine og K rfl rfl (os_leq rfl rfl) rfl fun _ K => ?_
   refine o1 K (os_pick rfl rfl rfl) rfl fun _ K => ?_
   refine oB K (os_move rfl) rfl fun b57 _ e57 K => ?_
   cases b57
   · replace e57 := of_decide_eq_false e57
     refine gn K rfl rfl rfl rfl fun _ K => ?_
     refine gn K rfl rfl rfl rfl fun _ K => ?_
     refine gn K rfl rfl rfl rfl fun _ K => ?_
     refine gn K rfl rfl rfl rfl fun _ K => ?_
     refine o1 K (os_pick rfl rfl rfl) rfl fun _ K => ?_
     refine o1 K (os_move rfl) rfl fun _ K => ?_
     refine gn K rfl rfl rfl rfl fun _ K => ?_
     refine gn K rfl rfl rfl rfl fun _ K => ?_
     refine gn K rfl rfl rfl rfl fun _ K => ?_
     refine gn K rfl rfl rfl rfl fun _ K => ?_
     refine gn K rfl rfl rfl rfl fun _ K => ?_
     refine gn K rfl rfl rfl rfl fun _ K => ?_
     refine o1 K (os_pick rfl rfl rfl) rfl fun _ K => ?_
     refine o1 K (os_move rfl) rfl fun _ K => ?_
     refine gn K rfl rfl rfl rfl fun _ K => ?_
     refine gn K rfl rfl rfl rfl fun _ K => ?_
     refine gn K rfl rfl rfl rfl fun _ K => ?_
     refine gn K rfl rfl rfl rfl fun _ K => ?_
     refine gn K rfl rfl rfl rfl fun _ K => ?_
     refine o1 K (os_pick rfl rfl rfl) rfl fun _ K => ?_
     refine o1 K (os_assign rfl) rfl fun _ K => ?_
     refine wr_nil ?_
     show W _ _ _ _ _ _ _
     refine w_ret ?_
     refine ⟨.inr rfl, _, (res_one (rs_tmp K rfl)), ?_⟩
     refine ⟨congrArg AV.bool ?_, M.qt⟩
     rw [termN_mk o s z a l]
     try generalize l.all termN = q1 at *
     try generalize l.all partB = q2 at *
     try clear M
     try clear ih
     try clear hr
     try clear hr0
     try clear hp
     try clear hn
     try clear hK
     try clear hb
     try clear hc
     try clear hm
     try clear hln
     try clear hbn
     try clear hf
     try (obtain hk := one_kid (by assumption) (by assumption); subst hk)
     simp_all [bif', oVar, oNum, oPlus, oSet, isSetB, bareB, hasB, Nd.op] <;> first | done | rfl | omega | (congr 1; done) | (congr 2; done) | (intros; omega)
   replace e57 := of_decide_eq_true e57
   refine og K rfl rfl (os_fieldAddr fo_api_Node_4 rfl) rfl fun _ K => ?_
   refine og K rfl rfl (os_load rfl (M.load (k := 0) rfl (part_one tk_S_api_Node rfl))) rfl fun _ K => ?_
   refine og K rfl rfl (os_lenL un_S_api_Node rfl rfl hK.len) rfl fun _ K => ?_
   refine og K rfl rfl (os_eqI rfl rfl) rfl fun _ K => ?_
   refine o1 K (os_pick rfl rfl rfl) rfl fun _ K => ?_
   refine oB K (os_move rfl) rfl fun b63 _ e63 K => ?_
   cases b63
   · replace e63 := of_decide_eq_false e63
     refine gn K rfl rfl rfl rfl fun _ K => ?_
     refine gn K rfl rfl rfl rfl fun _ K => ?_
     refine gn K rfl rfl rfl rfl fun _ K => ?_
     refine gn K rfl rfl rfl rfl fun _ K => ?_
     refine gn K rfl rfl rfl rfl fun _ K => ?_
     refine gn K rfl rfl rfl rfl fun _ K => ?_
     refine o1 K (os_pick rfl rfl rfl) rfl fun _ K => ?_
     refine o1 K (os_move rfl) rfl fun _ K => ?_
     refine gn K rfl rfl rfl rfl fun _ K => ?_
     refine gn K rfl rfl rfl rfl fun _ K => ?_
     refine gn K rfl rfl rfl rfl fun _ K => ?_
     refine gn K rfl rfl rfl rfl fun _ K => ?_
     refine gn K rfl rfl rfl rfl fun _ K => ?_
     refine o1 K (os_pick rfl rfl rfl) rfl fun _ K => ?_
     refine o1 K (os_assign rfl) rfl fun _ K => ?_
     refine wr_nil ?_
     show W _ _ _ _ _ _ _
     refine w_ret ?_
     refine ⟨.inr rfl, _, (res_one (rs_tmp K rfl)), ?_⟩
     refine ⟨congrArg AV.bool ?_, M.qt⟩
     rw [termN_mk o s z a l]
     try generalize l.all termN = q1 at *
     try generalize l.all partB = q2 at *
     try clear M
     try clear ih
     try clear hr
     try clear hr0
     try clear hp
     try clear hn
     try clear hK
     try clear hb
     try clear hc
     try clear hm
     try clear hln
     try clear hbn
     try clear hf
     try (obtain hk := one_kid (by assumption) (by assumption); subst hk)
     simp_all [bif', oVar, oNum, oPlus, oSet, isSetB, bareB, hasB, Nd.op] <;> first | done | rfl | omega | (congr 1; done) | (congr 2; done) | (intros; omega)
   replace e63 := of_decide_eq_true e63
   refine og K rfl rfl (os_fieldAddr fo_api_Node_4 rfl) rfl fun _ K => ?_
   refine og K rfl rfl (os_load rfl (M.load (k := 0) rfl (part_one tk_S_api_Node rfl))) rfl fun _ K => ?_
   obtain ⟨⟨o66, s66, z66, a66, l66⟩, hi66⟩ : ∃ k, l[0]? = some k := ⟨_, List.getElem?_eq_getElem (by first | omega | (have := bare_len (m := 1) (l := l) (by assumption); omega) | (have := bare_len (m := 2) (l := l) (by assumption); omega) | (have := has_len (m := 1) (l := l) (by assumption); omega))⟩
   have hm66 := kids_mem hi66
   obtain ⟨_, hc66, hn66⟩ := hK.at_ _ _ hi66
   have hp66 := hn66
   obtain ⟨kk66, ls66, rfl, hK66, hb66⟩ := hp66.open5
   obtain ⟨x66, m66, f66, q66, _, la66, lo66, lp66⟩ := (hK.r.mem M (by simp)).load (i := 0) (cs := _) hc66
   refine og K rfl rfl (os_indexAddr (j := 0) el_S_api_Node (congrArg some q66) rfl (by rw [hK.ln]; first | omega | (have := bare_len (m := 1) (l := l) (by assumption); omega) | (have := bare_len (m := 2) (l := l) (by assumption); omega) | (have := has_len (m := 1) (l := l) (by assumption); omega))) rfl fun _ K => ?_
   refine og K rfl rfl (os_fieldAddr fo_api_Node_0 rfl) rfl fun _ K => ?_
   refine og K rfl rfl (os_load rfl (lo66 _ 0 _ tk_string rfl)) rfl fun _ K => ?_
   refine og K rfl rfl (os_eqS (b := [118, 97, 114]) rfl rfl) rfl fun _ K => ?_
   refine o1 K (os_pick rfl rfl rfl) rfl fun _ K => ?_
   refine oB K (os_move rfl) rfl fun b71 _ e71 K => ?_
   cases b71
   · replace e71 := of_decide_eq_false e71
     refine gn K rfl rfl rfl rfl fun _ K => ?_
     refine gn K rfl rfl rfl rfl fun _ K => ?_
     refine gn K rfl rfl rfl rfl fun _ K => ?_
     refine gn K rfl rfl rfl rfl fun _ K => ?_
     refine gn K rfl rfl rfl rfl fun _ K => ?_
     refine o1 K (os_pick rfl rfl rfl) rfl fun _ K => ?_
     refine o1 K (os_assign rfl) rfl fun _ K => ?_
     refine wr_nil ?_
     show W _ _ _ _ _ _ _
     refine w_ret ?_
     refine ⟨.inr rfl, _, (res_one (rs_tmp K rfl)), ?_⟩
     refine ⟨congrArg AV.bool ?_, M.qt⟩
     rw [termN_mk o s z a l]
     try generalize l.all termN = q1 at *
     try generalize l.all partB = q2 at *
     try clear M
     try clear ih
     try clear hr
     try clear hr0
     try clear hp
     try clear hn
     try clear hK
     try clear hb
     try clear hc
     try clear hm
     try clear hp66
     try clear hn66
     try clear hK66
     try clear hb66
     try clear hc66
     try clear hm66
     try clear hln
     try clear hbn
     try clear hf
     try (obtain hk := one_kid (by assumption) (by assumption); subst hk)
     simp_all [bif', oVar, oNum, oPlus, oSet, isSetB, bareB, hasB, Nd.op] <;> first | done | rfl | omega | (congr 1; done) | (congr 2; done) | (intros; omega)
   replace e71 := of_decide_eq_true e71
   refine og K rfl rfl (os_fieldAddr fo_api_Node_4 rfl) rfl fun _ K => ?_
   refine og K rfl rfl (os_load rfl (M.load (k := 0) rfl (part_one tk_S_api_Node rfl))) rfl fun _ K => ?_
   obtain ⟨⟨o74, s74, z74, a74, l74⟩, hi74⟩ : ∃ k, l[0]? = some k := ⟨_, List.getElem?_eq_getElem (by first | omega | (have := bare_len (m := 1) (l := l) (by assumption); omega) | (have := bare_len (m := 2) (l := l) (by assumption); omega) | (have := has_len (m := 1) (l := l) (by assumption); omega))⟩
   have hm74 := kids_mem hi74
   obtain ⟨_, hc74, hn74⟩ := hK.at_ _ _ hi74
   have hp74 := hn74
   obtain ⟨kk74, ls74, rfl, hK74, hb74⟩ := hp74.open5
   obtain ⟨x74, m74, f74, q74, _, la74, lo74, lp74⟩ := (hK.r.mem M (by simp)).load (i := 0) (cs := _) hc74
   refine og K rfl rfl (os_indexAddr (j := 0) el_S_api_Node (congrArg some q74) rfl (by rw [hK.ln]; first | omega | (have := bare_len (m := 1) (l := l) (by assumption); omega) | (have := bare_len (m := 2) (l := l) (by assumption); omega) | (have := has_len (m := 1) (l := l) (by assumption); omega))) rfl fun _ K => ?_
   refine og K rfl rfl (os_load rfl (la74 _ tk_api_Node)) rfl fun _ K => ?_
   obtain ⟨v76, st76, ev76, rfl, q76⟩ := ih _ (hm74) _ _ M.fresh (hn74.mono M.rows)
   refine og K rfl rfl (os_call rfl ev76) rfl fun _ K => ?_
   replace M := M.quiet q76
   refine o1 K (os_pick rfl rfl rfl) rfl fun _ K => ?_
   refine o1 K (os_assign rfl) rfl fun _ K => ?_
   refine wr_nil ?_
   show W _ _ _ _ _ _ _
   refine w_ret ?_
   refine ⟨.inr rfl, _, (res_one (rs_tmp K rfl)), ?_⟩
   refine ⟨congrArg AV.bool ?_, M.qt⟩
   rw [termN_mk o s z a l]
   try generalize l.all termN = q1 at *
   try generalize l.all partB = q2 at *
   try clear M
   try clear ih
   try clear hr
   try clear hr0
   try clear hp
   try clear hn
   try clear hK
   try clear hb
   try clear hc
   try clear hm
   try clear hp66
   try clear hn66
   try clear hK66
   try clear hb66
   try clear hc66
   try clear hm66
   try clear hp74
   try clear hn74
   try clear hK74
   try clear hb74
   try clear hc74
   try clear hm74
   try clear hln
   try clear hbn
   try clear hf
   try (obtain hk := one_kid (by assumption) (by assumption); subst hk)
   simp_all [bif', oVar, oNum, oPlus, oSet, isSetB, bareB, hasB, Nd.op] <;> first | done | rfl | omega | (congr 1; done) | (congr 2; done) | (intros; omega)
 have hb42 := h42
 replace h42 := of_decide_eq_false h42
 refine w_seq ?_
 refine w_region ?_
 refine o1 K (os_eqS (b := [115, 101, 116]) rfl rfl) rfl fun _ K => ?_
 refine o1 K (os_assign rfl) rfl fun _ K => ?_
 refine wr_nil ?_
 show W _ _ _ _ _ _ _
 refine w_cond (K.opd rfl) (fun h78 => ?_) (fun h78 => ?_)
 · have hb78 := h78
   replace h78 := of_decide_eq_true h78
   refine w_seq ?_
   refine w_region ?_
   refine o1 K (os_fieldAddr fo_api_Node_1 rfl) rfl fun _ K => ?_
   refine o1 K (os_load rfl (M.load (k := 0) rfl (part_one tk_string rfl))) rfl fun _ K => ?_
   refine o1 K (os_eqS (b := []) rfl rfl) rfl fun _ K => ?_
   refine oB K (os_move rfl) rfl fun b83 _ e83 K => ?_
   cases b83
   · replace e83 := of_decide_eq_false e83
     refine gn K rfl rfl rfl rfl fun _ K => ?_
     refine gn K rfl rfl rfl rfl fun _ K => ?_
     refine gn K rfl rfl rfl rfl fun _ K => ?_
     refine o1 K (os_pick rfl rfl rfl) rfl fun _ K => ?_
     refine o1 K (os_move rfl) rfl fun _ K => ?_
     refine gn K rfl rfl rfl rfl fun _ K => ?_
     refine gn K rfl rfl rfl rfl fun _ K => ?_
     refine gn K rfl rfl rfl rfl fun _ K => ?_
     refine gn K rfl rfl rfl rfl fun _ K => ?_
     refine o1 K (os_pick rfl rfl rfl) rfl fun _ K => ?_
     refine o1 K (os_move rfl) rfl fun _ K => ?_
     refine gn K rfl rfl rfl rfl fun _ K => ?_
     refine gn K rfl rfl rfl rfl fun _ K => ?_
     refine o1 K (os_pick rfl rfl rfl) rfl fun _ K => ?_
     refine o1 K (os_assign rfl) rfl fun _ K => ?_
     refine wr_nil ?_
     show W _ _ _ _ _ _ _
     refine w_ret ?_
     refine ⟨.inr rfl, _, (res_one (rs_tmp K rfl)), ?_⟩
     refine ⟨congrArg AV.bool ?_, M.qt⟩
     rw [termN_mk o s z a l]
     try generalize l.all termN = q1 at *
     try generalize l.all partB = q2 at *
     try clear M
     try clear ih
     try clear hr
     try clear hr0
     try clear hp
     try clear hn
     try clear hK
     try clear hb
     try clear hc
     try clear hm
     try clear hln
     try clear hbn
     try clear hf
     try (obtain hk := one_kid (by assumption) (by assumption); subst hk)
     simp_all [bif', oVar, oNum, oPlus, oSet, isSetB, bareB, hasB, Nd.op] <;> first | done | rfl | omega | (congr 1; done) | (congr 2; done) | (intros; omega)
   replace e83 := of_decide_eq_true e83
   refine og K rfl rfl (os_fieldAddr fo_api_Node_2 rfl) rfl fun _ K => ?_
   refine og K rfl rfl (os_load rfl (M.load (k := 0) rfl (part_one tk_int rfl))) rfl fun _ K => ?_
   refine og K rfl rfl (os_eqI rfl rfl) rfl fun _ K => ?_
   refine o1 K (os_pick rfl rfl rfl) rfl fun _ K => ?_
   refine oB K (os_move rfl) rfl fun b88 _ e88 K => ?_
   cases b88
   · replace e88 := of_decide_eq_false e88
     refine gn K rfl rfl rfl rfl fun _ K => ?_
     refine gn K rfl rfl rfl rfl fun _ K => ?_
     refine gn K rfl rfl rfl rfl fun _ K => ?_
     refine gn K rfl rfl rfl rfl fun _ K => ?_
     refine o1 K (os_pick rfl rfl rfl) rfl fun _ K => ?_
     refine o1 K (os_move rfl) rfl fun _ K => ?_
     refine gn K rfl rfl rfl rfl fun _ K => ?_
     refine gn K rfl rfl rfl rfl fun _ K => ?_
     refine o1 K (os_pick rfl rfl rfl) rfl fun _ K => ?_
     refine o1 K (os_assign rfl) rfl fun _ K => ?_
     refine wr_nil ?_
     show W _ _ _ _ _ _ _
     refine w_ret ?_
     refine ⟨.inr rfl, _, (res_one (rs_tmp K rfl)), ?_⟩
     refine ⟨congrArg AV.bool ?_, M.qt⟩
     rw [termN_mk o s z a l]
     try generalize l.all termN = q1 at *
     try generalize l.all partB = q2 at *
     try clear M
     try clear ih
     try clear hr
     try clear hr0
     try clear hp
     try clear hn
     try clear hK
     try clear hb
     try clear hc
     try clear hm
     try clear hln
     try clear hbn
     try clear hf
     try (obtain hk := one_kid (by assumption) (by assumption); subst hk)
     simp_all [bif', oVar, oNum, oPlus, oSet, isSetB, bareB, hasB, Nd.op] <;> first | done | rfl | omega | (congr 1; done) | (congr 2; done) | (intros; omega)
   replace e88 := of_decide_eq_true e88
   refine og K rfl rfl (os_fieldAddr fo_api_Node_4 rfl) rfl fun _ K => ?_
   refine og K rfl rfl (os_load rfl (M.load (k := 0) rfl (part_one tk_S_api_Node rfl))) rfl fun _ K => ?_
   refine og K rfl rfl (os_lenL un_S_api_Node rfl rfl hK.len) rfl fun _ K => ?_
   refine og K rfl rfl (os_leq rfl rfl) rfl fun _ K => ?_
   refine o1 K (os_pick rfl rfl rfl) rfl fun _ K => ?_
   refine oB K (os_move rfl) rfl fun b94 _ e94 K => ?_
   cases b94
   · replace e94 := of_decide_eq_false e94
     refine gn K rfl rfl rfl rfl fun _ K => ?_
     refine gn K rfl rfl rfl rfl fun _ K => ?_
     refine o1 K (os_pick rfl rfl rfl) rfl fun _ K => ?_
     refine o1 K (os_assign rfl) rfl fun _ K => ?_
     refine wr_nil ?_
     show W _ _ _ _ _ _ _
     refine w_ret ?_
     refine ⟨.inr rfl, _, (res_one (rs_tmp K rfl)), ?_⟩
     refine ⟨congrArg AV.bool ?_, M.qt⟩
     rw [termN_mk o s z a l]
     try generalize l.all termN = q1 at *
     try generalize l.all partB = q2 at *
     try clear M
     try clear ih
     try clear hr
     try clear hr0
     try clear hp
     try clear hn
     try clear hK
     try clear hb
     try clear hc
     try clear hm
     try clear hln
     try clear hbn
     try clear hf
     try (obtain hk := one_kid (by assumption) (by assumption); subst hk)
     simp_all [bif', oVar, oNum, oPlus, oSet, isSetB, bareB, hasB, Nd.op] <;> first | done | rfl | omega | (congr 1; done) | (congr 2; done) | (intros; omega)
   replace e94 := of_decide_eq_true e94
   refine og K rfl rfl (os_load rfl (M.load (k := 0) rfl (part_agg tk_api_Node rfl))) rfl fun _ K => ?_
   obtain ⟨v96, st96, ev96, rfl, q96⟩ := all_ev (p := partB) M.fresh (hr0.mono M.rows) (fun k hk st1 cs hf1 hr1 => by
        obtain ⟨ko, ks, kv, ka, kl⟩ := k
        exact isPart_ev hf1 hr1 (fun st2 cs2 h2 r2 => ih _ hk st2 cs2 h2 r2))
   refine og K rfl rfl (os_call rfl ev96) rfl fun _ K => ?_
   replace M := M.quiet q96
   refine o1 K (os_pick rfl rfl rfl) rfl fun _ K => ?_
   refine o1 K (os_assign rfl) rfl fun _ K => ?_
   refine wr_nil ?_
   show W _ _ _ _ _ _ _
   refine w_ret ?_
   refine ⟨.inr rfl, _, (res_one (rs_tmp K rfl)), ?_⟩
   refine ⟨congrArg AV.bool ?_, M.qt⟩
   rw [termN_mk o s z a l]
   try generalize l.all termN = q1 at *
   try generalize l.all partB = q2 at *
   try clear M
   try clear ih
   try clear hr
   try clear hr0
   try clear hp
   try clear hn
   try clear hK
   try clear hb
   try clear hc
   try clear hm
   try clear hln
   try clear hbn
   try clear hf
   try (obtain hk := one_kid (by assumption) (by assumption); subst hk)
   simp_all [bif', oVar, oNum, oPlus, oSet, isSetB, bareB, hasB, Nd.op] <;> first | done | rfl | omega | (congr 1; done) | (congr 2; done) | (intros; omega)
 have hb78 := h78
 replace h78 := of_decide_eq_false h78
 refine w_cut (J := fun T st9 => ∃ (b : Bool), KnT [(1, .ptr c1 0 0), (2, .bool false), (98, .bool b)] T ∧ Mem st.h.get st.n [] st9 [(c1, 0, [.str o, .str s, .int .i64 z, .int .i64 a, kk])] ∧ b = isSetB o) ?_ (fun T st9 hJ => ?_)
 · refine w_seq ?_
   refine w_region ?_
   refine o1 K (os_eqS (b := [117, 110, 105, 111, 110]) rfl rfl) rfl fun _ K => ?_
   refine o1 K (os_assign rfl) rfl fun _ K => ?_
   refine wr_nil ?_
   show W _ _ _ _ _ _ _
   refine w_cond (K.opd rfl) (fun h98 => ?_) (fun h98 => ?_)
   · have hb98 := h98
     replace h98 := of_decide_eq_true h98
     refine w_skip ?_
     exact ⟨_, (.cons (K _ _ rfl) (.cons (K _ _ rfl) (.cons (K _ _ rfl) .nil))), M.less (.refl _), (by simp_all [isSetB])⟩
   have hb98 := h98
   replace h98 := of_decide_eq_false h98
   refine w_seq ?_
   refine w_region ?_
   refine o1 K (os_eqS (b := [105, 110, 116, 101, 114]) rfl rfl) rfl fun _ K => ?_
   refine o1 K (os_assign rfl) rfl fun _ K => ?_
   refine wr_nil ?_
   show W _ _ _ _ _ _ _
   refine w_cond (K.opd rfl) (fun h98 => ?_) (fun h98 => ?_)
   · have hb98 := h98
     replace h98 := of_decide_eq_true h98
     refine w_skip ?_
     exact ⟨_, (.cons (K _ _ rfl) (.cons (K _ _ rfl) (.cons (K _ _ rfl) .nil))), M.less (.refl _), (by simp_all [isSetB])⟩
   have hb98 := h98
   replace h98 := of_decide_eq_false h98
   refine w_region ?_
   refine o1 K (os_eqS (b := [109, 105, 110, 117, 115]) rfl rfl) rfl fun _ K => ?_
   refine o1 K (os_assign rfl) rfl fun _ K => ?_
   refine wr_nil ?_
   exact ⟨_, (.cons (K _ _ rfl) (.cons (K _ _ rfl) (.cons (K _ _ rfl) .nil))), M.less (.refl _), (by simp_all [isSetB])⟩
 obtain ⟨b, K, M, hbs⟩ := hJ
 refine w_cond (K.opd rfl) (fun h98 => ?_) (fun h98 => ?_)
 · have hb98 := h98
   refine w_seq ?_
   refine w_region ?_
   refine o1 K (os_load rfl (M.load (k := 0) rfl (part_agg tk_api_Node rfl))) rfl fun _ K => ?_
   obtain ⟨v103, st103, ev103, rfl, q103⟩ := bare_ev M.fresh (hr0.mono M.rows) 2
   refine o1 K (os_call rfl ev103) rfl fun _ K => ?_
   replace M := M.quiet q103
   refine oB K (os_move rfl) rfl fun b104 _ e104 K => ?_
   cases b104
   · refine gn K rfl rfl rfl rfl fun _ K => ?_
     refine gn K rfl rfl rfl rfl fun _ K => ?_
     refine o1 K (os_pick rfl rfl rfl) rfl fun _ K => ?_
     refine o1 K (os_move rfl) rfl fun _ K => ?_
     refine gn K rfl rfl rfl rfl fun _ K => ?_
     refine gn K rfl rfl rfl rfl fun _ K => ?_
     refine gn K rfl rfl rfl rfl fun _ K => ?_
     refine gn K rfl rfl rfl rfl fun _ K => ?_
     refine gn K rfl rfl rfl rfl fun _ K => ?_
     refine gn K rfl rfl rfl rfl fun _ K => ?_
     refine o1 K (os_pick rfl rfl rfl) rfl fun _ K => ?_
     refine o1 K (os_assign rfl) rfl fun _ K => ?_
     refine wr_nil ?_
     show W _ _ _ _ _ _ _
     refine w_ret ?_
     refine ⟨.inr rfl, _, (res_one (rs_tmp K rfl)), ?_⟩
     refine ⟨congrArg AV.bool ?_, M.qt⟩
     rw [termN_mk o s z a l]
     try generalize l.all termN = q1 at *
     try generalize l.all partB = q2 at *
     try clear M
     try clear ih
     try clear hr
     try clear hr0
     try clear hp
     try clear hn
     try clear hK
     try clear hb
     try clear hc
     try clear hm
     try clear hln
     try clear hbn
     try clear hf
     try (obtain hk := one_kid (by assumption) (by assumption); subst hk)
     simp_all [bif', oVar, oNum, oPlus, oSet, isSetB, bareB, hasB, Nd.op] <;> first | done | rfl | omega | (congr 1; done) | (congr 2; done) | (intros; omega)
   refine og K rfl rfl (os_load rfl (M.load (k := 0) rfl (part_agg tk_api_Node rfl))) rfl fun _ K => ?_
   obtain ⟨v106, st106, ev106, rfl, q106⟩ := all_ev (p := termN) M.fresh (hr0.mono M.rows) (fun k hk st1 cs hf1 hr1 => ih _ hk st1 cs hf1 hr1)
   refine og K rfl rfl (os_call rfl ev106) rfl fun _ K => ?_
   replace M := M.quiet q106
   refine o1 K (os_pick rfl rfl rfl) rfl fun _ K => ?_
   refine oB K (os_move rfl) rfl fun b108 _ e108 K => ?_
   cases b108
   · refine gn K rfl rfl rfl rfl fun _ K => ?_
     refine gn K rfl rfl rfl rfl fun _ K => ?_
     refine gn K rfl rfl rfl rfl fun _ K => ?_
     refine gn K rfl rfl rfl rfl fun _ K => ?_
     refine gn K rfl rfl rfl rfl fun _ K => ?_
     refine gn K rfl rfl rfl rfl fun _ K => ?_
     refine o1 K (os_pick rfl rfl rfl) rfl fun _ K => ?_
     refine o1 K (os_assign rfl) rfl fun _ K => ?_
     refine wr_nil ?_
     show W _ _ _ _ _ _ _
     refine w_ret ?_
     refine ⟨.inr rfl, _, (res_one (rs_tmp K rfl)), ?_⟩
     refine ⟨congrArg AV.bool ?_, M.qt⟩
     rw [termN_mk o s z a l]
     try generalize l.all termN = q1 at *
     try generalize l.all partB = q2 at *
     try clear M
     try clear ih
     try clear hr
     try clear hr0
     try clear hp
     try clear hn
     try clear hK
     try clear hb
     try clear hc
     try clear hm
     try clear hln
     try clear hbn
     try clear hf
     try (obtain hk := one_kid (by assumption) (by assumption); subst hk)
     simp_all [bif', oVar, oNum, oPlus, oSet, isSetB, bareB, hasB, Nd.op] <;> first | done | rfl | omega | (congr 1; done) | (congr 2; done) | (intros; omega)
   refine og K rfl rfl (os_fieldAddr fo_api_Node_4 rfl) rfl fun _ K => ?_
   refine og K rfl rfl (os_load rfl (M.load (k := 0) rfl (part_one tk_S_api_Node rfl))) rfl fun _ K => ?_
   obtain ⟨⟨o111, s111, z111, a111, l111⟩, hi111⟩ : ∃ k, l[1]? = some k := ⟨_, List.getElem?_eq_getElem (by first | omega | (have := bare_len (m := 1) (l := l) (by assumption); omega) | (have := bare_len (m := 2) (l := l) (by assumption); omega) | (have := has_len (m := 1) (l := l) (by assumption); omega))⟩
   have hm111 := kids_mem hi111
   obtain ⟨_, hc111, hn111⟩ := hK.at_ _ _ hi111
   have hp111 := hn111
   obtain ⟨kk111, ls111, rfl, hK111, hb111⟩ := hp111.open5
   obtain ⟨x111, m111, f111, q111, _, la111, lo111, lp111⟩ := (hK.r.mem M (by simp)).load (i := 1) (cs := _) hc111
   refine og K rfl rfl (os_indexAddr (j := 1) el_S_api_Node (congrArg some q111) rfl (by rw [hK.ln]; first | omega | (have := bare_len (m := 1) (l := l) (by assumption); omega) | (have := bare_len (m := 2) (l := l) (by assumption); omega) | (have := has_len (m := 1) (l := l) (by assumption); omega))) rfl fun _ K => ?_
   refine og K rfl rfl (os_load rfl (la111 _ tk_api_Node)) rfl fun _ K => ?_
   obtain ⟨v113, st113, ev113, rfl, q113⟩ := isSet_ev M.fresh (hn111.mono M.rows)
   refine og K rfl rfl (os_call rfl ev113) rfl fun _ K => ?_
   replace M := M.quiet q113
   refine og K rfl rfl (os_not rfl) rfl fun _ K => ?_
   refine o1 K (os_pick rfl rfl rfl) rfl fun _ K => ?_
   refine o1 K (os_assign rfl) rfl fun _ K => ?_
   refine wr_nil ?_
   show W _ _ _ _ _ _ _
   refine w_ret ?_
   refine ⟨.inr rfl, _, (res_one (rs_tmp K rfl)), ?_⟩
   refine ⟨congrArg AV.bool ?_, M.qt⟩
   rw [termN_mk o s z a l]
   try generalize l.all termN = q1 at *
   try generalize l.all partB = q2 at *
   try clear M
   try clear ih
   try clear hr
   try clear hr0
   try clear hp
   try clear hn
   try clear hK
   try clear hb
   try clear hc
   try clear hm
   try clear hp111
   try clear hn111
   try clear hK111
   try clear hb111
   try clear hc111
   try clear hm111
   try clear hln
   try clear hbn
   try clear hf
   try (obtain hk := one_kid (by assumption) (by assumption); subst hk)
   simp_all [bif', oVar, oNum, oPlus, oSet, isSetB, bareB, hasB, Nd.op] <;> first | done | rfl | omega | (congr 1; done) | (congr 2; done) | (intros; omega)
 have hb98 := h98
 refine w_skip ?_
 show W _ _ _ _ _ _ _
 refine w_seq ?_
 refine w_region ?_
 refine o1 K (os_assign rfl) rfl fun _ K => ?_
 refine wr_nil ?_
 show W _ _ _ _ _ _ _
 refine w_ret ?_
 refine ⟨.inr rfl, _, (res_one (rs_tmp K rfl)), ?_⟩
 refine ⟨congrArg AV.bool ?_, M.qt⟩
 rw [termN_mk o s z a l]
 try generalize l.all termN = q1 at *
 try generalize l.all partB = q2 at *
 try clear M
 try clear ih
 try clear hr
 try clear hr0
 try clear hp
 try clear hn
 try clear hK
 try clear hb
 try clear hc
 try clear hm
 try clear hln
 try clear hbn
 try clear hf
 try (obtain hk := one_kid (by assumption) (by assumption); subst hk)
 simp_all [bif', oVar, oNum, oPlus, oSet, isSetB, bareB, hasB, Nd.op] <;> first | done | rfl | omega | (congr 1; done) | (congr 2; done) | (intros; omega)
end Go.Proofs.YtmjnbdkjekdkgaaDoor
