/-
  sibylref7.Add, Has: rows of texts in their order.
-/
import Derived.Test.YtmjnbdkjekdkgaaDoorFbTrM
namespace Go.Proofs.YtmjnbdkjekdkgaaDoor
open Go Go.RowKit
set_option linter.unusedVariables false
set_option linter.unusedSimpArgs false
set_option linter.unnecessarySimpa false
set_option maxRecDepth 100000
set_option maxHeartbeats 1000000

theorem inB_step {x y : List Nat} {l : List (List Nat)} {i : Nat} (h : l[i]? = some y) : inB x (l.drop i) = (decide (x = y) || inB x (l.drop (i + 1))) := by
 obtain ⟨h1, h2⟩ := List.getElem?_eq_some_iff.1 h
 rw [List.drop_eq_getElem_cons h1, inB, List.any_cons, h2]; rfl
/-- Put in its place, if it isn't there. -/
noncomputable def insN (x : List Nat) : List (List Nat) → List (List Nat)
  | [] => [x]
  | y :: l => if ltT y x then y :: insN x l else if y = x then y :: l else x :: y :: l
/-- A part of a row. -/
noncomputable def sliceV (kb : AV) (a b : Nat) : AV := match kb with
  | .sl c m off len z => bif' (bif' (Nat.beq a 0) true (Nat.ble (a + 1) len)) (.sl c m (off + a * z) (b - a) z) (.slz c m off a z)
  | _ => .nils
theorem txHas_ev {st : St} (hf : Fresh st) {bl : List (List Nat)} {kb : AV} (hB : RdR st.h.get [] 1 (txC bl) kb) (x : List Nat) : ∃ v st', Ev Tryd.prog envD 31 [kb, .str x] st v st' ∧ v = .bool (inB x bl) ∧ Qt st st' := by
 have hbn : (bl.length : Int) ≤ 9223372036854775807 := by have := hB.bnd; rw [Jc] at this; exact this
 refine J5 rfl Tryd.func31 rfl Tryd.ntmps31 rfl (by decide) (by simp) fun T hT => ?_
 have K : KnT [(0, _), (1, _)] T := (.cons (hT 0) (.cons (hT 1) .nil))
 have M := Mem.start hf
 refine Qh <| Qa <| o1 K (Qb rfl) rfl fun _ K => Qd ?_
 show W _ _ _ _ _ _ _
 refine Qh <| Qh <| Qa <| o1 K (Qb rfl) rfl fun _ K => Qd ?_
 show W _ _ _ _ _ _ _
 refine Q5 ?_
 refine w_loop (fun mm1 T st9 => ∃ (i : Nat), mm1 = bl.length - i ∧ KnT [(0, kb), (1, .str x), (5, .int .i64 (((i : Nat) : Int)))] T ∧ Mem st.h.get st.n [] st9 [] ∧ i ≤ bl.length ∧ inB x bl = inB x (bl.drop i)) (fun mm1 T st9 hI => ?_) _ _ _ ⟨0, rfl, (.cons (K _ _ rfl) (.cons (K _ _ rfl) (.cons (K _ _ rfl) .nil))), M.less (.refl _), (Nat.zero_le _), rfl⟩
 obtain ⟨i, rfl, K, M, hi, hx⟩ := hI
 refine Qh <| Qh <| Qa <| o1 K (Qc rfl) rfl fun _ K => o1 K (Qc rfl) rfl fun _ K => o1 K (Jn un_S_string rfl rfl (hB.len.trans (congrArg some (Jc _)))) rfl fun _ K => o1 K (os_lss rfl rfl) rfl fun _ K => Qd ?_
 show W _ _ _ _ _ _ _
 refine Qr (K.opd rfl) (fun h9 => ?_) (fun h9 => ?_)
 ·have hb9 := h9
  replace h9 := of_decide_eq_true h9
  refine Q3 ?_
  show W _ _ _ _ _ _ _
  refine Qh <| Q5 <| Qh <| Qa <| o1 K (Qc rfl) rfl fun _ K => o1 K (Qc rfl) rfl fun _ K => ?_
  obtain ⟨y14, hi14⟩ : ∃ x, bl[i]? = some x := ⟨_, List.getElem?_eq_getElem (by omega)⟩
  obtain ⟨x14, m14, f14, q14, _, la14, lo14, lp14⟩ := (RdR.mem M hB (by simp)).load (i := i) (cs := _) (txC_get hi14)
  refine o1 K (Q0 (j := i) el_S_string (congrArg some q14) rfl (by rw [Jc]; omega)) rfl fun _ K => o1 K (Qg rfl (lo14 _ 0 _ Qx rfl)) rfl fun _ K => o1 K (Qc rfl) rfl fun _ K => o1 K (Jo rfl rfl) rfl fun _ K => Qd ?_
  show W _ _ _ _ _ _ _
  refine Qr (K.opd rfl) (fun h17 => ?_) (fun h17 => ?_)
  ·have hb17 := h17
   replace h17 := of_decide_eq_true h17
   refine Qh <| Qa <| o1 K (Qb rfl) rfl fun _ K => Qd ?_
   show W _ _ _ _ _ _ _
   refine Qs ?_
   refine ⟨.inr rfl, _, (Qm (Qp K rfl)), ?_⟩
   exact ⟨by rw [hx, inB_step hi14]; simp_all, M.qt⟩
  have hb17 := h17
  replace h17 := of_decide_eq_false h17
  refine Q3 ?_
  show W _ _ _ _ _ _ _
  refine Qa <| o1 K (Qc rfl) rfl fun _ K => o1 K (Jm rfl rfl (by omega) (by omega)) rfl fun _ K => o1 K (Qb rfl) rfl fun _ K => Qd ?_
  exact ⟨_, (by omega), i + 1, rfl, (.cons (K _ _ rfl) (.cons (K _ _ rfl) (.cons (K _ _ rfl) .nil))), M.less (.refl _), (by omega), (by rw [hx, inB_step hi14]; simp_all [eq_comm])⟩
 have hb9 := h9
 replace h9 := of_decide_eq_false h9
 refine Uk ?_
 show W _ _ _ _ _ _ _
 refine Qh <| Qa <| o1 K (Qb rfl) rfl fun _ K => Qd ?_
 show W _ _ _ _ _ _ _
 refine Qs ?_
 refine ⟨.inr rfl, _, (Qm (Qp K rfl)), ?_⟩
 exact ⟨by rw [hx, Jl (by omega)]; rfl, M.qt⟩

theorem take_step {α : Type} {l : List α} {i : Nat} {y : α} (h : l[i]? = some y) : l.take (i + 1) = l.take i ++ [y] := by
 rw [List.take_add_one, h]; rfl

end Go.Proofs.YtmjnbdkjekdkgaaDoor
