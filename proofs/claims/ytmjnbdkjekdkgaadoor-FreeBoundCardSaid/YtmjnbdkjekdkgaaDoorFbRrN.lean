/-
  Is a text one whole name: the reference's answer, and the program's.
-/
import Derived.Test.YtmjnbdkjekdkgaaDoorFbRrT
namespace Go.Proofs.YtmjnbdkjekdkgaaDoor
open Go Go.RowKit
set_option linter.unusedVariables false
set_option linter.unusedSimpArgs false
set_option maxRecDepth 100000

/-- Is it one whole name? -/
def nameB (l : List Nat) : Bool := decide ((tokens (bytesOf l)).2.2 = 0) && (decide ((((tokens (bytesOf l)).1.length : Nat) : Int) = 2) && (match (tokens (bytesOf l)).1[0]? with
  | some t => decide (t.kind = 1) && decide (textOf t.text = l)
  | none => false))

theorem risName_ev {st : St} (hf : Fresh st) (l : List Nat) (hB : Bytes l) : ∃ v st', Ev Tryd.prog envD 46 [.str l] st v st' ∧ v = .bool (nameB l) ∧ Qt st st' := by
 have htl := tokens_len (bytesOf l)
 have hml : ((tokens (bytesOf l)).1.map TokR.cells).length = (tokens (bytesOf l)).1.length := by simp
 refine J5 rfl Tryd.func46 rfl Tryd.ntmps46 rfl (by decide) (by simp) fun T hT => ?_
 have K : KnT [(0, _)] T := (.cons (hT 0) .nil)
 have M := Mem.start hf
 refine Qh <| Qa <| o1 K (Qb rfl) rfl fun _ K => Qd ?_
 show W _ _ _ _ _ _ _
 refine Qh <| Qa <| o1 K (Qc rfl) rfl fun _ K => ?_
 obtain ⟨v8, st8, ev8, ks8, rfl, nr8, q8⟩ := rtokens_ev M.fresh l hB
 refine o1 K (Qn rfl ev8) rfl fun _ K => ?_
 obtain ⟨A8, hA8, M⟩ := M.callAcc q8 nr8
 refine o1 K (Qc rfl) rfl fun _ K => o1 K (Jx rfl rfl) rfl fun _ K => o1 K (Jx rfl rfl) rfl fun _ K => o1 K (Jx rfl rfl) rfl fun _ K => o1 K (Qb rfl) rfl fun _ K => o1 K (Qb rfl) rfl fun _ K => o1 K (Qb rfl) rfl fun _ K => Qd ?_
 show W _ _ _ _ _ _ _
 refine Qh <| Qa <| o1 K (Qc rfl) rfl fun _ K => o1 K (os_eqI rfl rfl) rfl fun _ K => ?_
 refine oB K (Qc rfl) rfl fun b14 _ e14 K => ?_
 cases b14
 ·replace e14 := of_decide_eq_false e14
  refine gn K rfl rfl rfl rfl fun _ K => gn K rfl rfl rfl rfl fun _ K => gn K rfl rfl rfl rfl fun _ K => o1 K (Qj rfl rfl rfl) rfl fun _ K => o1 K (Qc rfl) rfl fun _ K => gn K rfl rfl rfl rfl fun _ K => gn K rfl rfl rfl rfl fun _ K => gn K rfl rfl rfl rfl fun _ K => gn K rfl rfl rfl rfl fun _ K => ?_
  refine gn K rfl rfl rfl rfl fun _ K => o1 K (Qj rfl rfl rfl) rfl fun _ K => o1 K (Qc rfl) rfl fun _ K => gn K rfl rfl rfl rfl fun _ K => gn K rfl rfl rfl rfl fun _ K => gn K rfl rfl rfl rfl fun _ K => gn K rfl rfl rfl rfl fun _ K => gn K rfl rfl rfl rfl fun _ K => gn K rfl rfl rfl rfl fun _ K => ?_
  refine o1 K (Qj rfl rfl rfl) rfl fun _ K => o1 K (Qb rfl) rfl fun _ K => Qd ?_
  show W _ _ _ _ _ _ _
  refine Qs ?_
  refine ⟨.inr rfl, _, (Qm (Qp K rfl)), ?_⟩
  refine ⟨?_, M.qt⟩
  simp_all [nameB, bif']
 ·replace e14 := of_decide_eq_true e14
  refine og K rfl rfl (Qc rfl) rfl fun _ K => og K rfl rfl (Jn un_S_api_Token rfl rfl hA8.len) rfl fun _ K => og K rfl rfl (os_eqI rfl rfl) rfl fun _ K => o1 K (Qj rfl rfl rfl) rfl fun _ K => ?_
  refine oB K (Qc rfl) rfl fun b19 _ e19 K => ?_
  cases b19
  ·replace e19 := of_decide_eq_false e19
   refine gn K rfl rfl rfl rfl fun _ K => gn K rfl rfl rfl rfl fun _ K => gn K rfl rfl rfl rfl fun _ K => gn K rfl rfl rfl rfl fun _ K => gn K rfl rfl rfl rfl fun _ K => o1 K (Qj rfl rfl rfl) rfl fun _ K => o1 K (Qc rfl) rfl fun _ K => gn K rfl rfl rfl rfl fun _ K => gn K rfl rfl rfl rfl fun _ K => ?_
   refine gn K rfl rfl rfl rfl fun _ K => gn K rfl rfl rfl rfl fun _ K => gn K rfl rfl rfl rfl fun _ K => gn K rfl rfl rfl rfl fun _ K => o1 K (Qj rfl rfl rfl) rfl fun _ K => o1 K (Qb rfl) rfl fun _ K => Qd ?_
   show W _ _ _ _ _ _ _
   refine Qs ?_
   refine ⟨.inr rfl, _, (Qm (Qp K rfl)), ?_⟩
   refine ⟨?_, M.qt⟩
   simp_all [nameB, bif']
  ·replace e19 := of_decide_eq_true e19
   refine og K rfl rfl (Qc rfl) rfl fun _ K => ?_
   obtain ⟨t21, ht21⟩ : ∃ t, (tokens (bytesOf l)).1[0]? = some t := ⟨_, List.getElem?_eq_getElem (by omega)⟩
   obtain ⟨x21, m21, f21, q21, _, la21, lo21, lp21⟩ := (Mem.accR (L := []) (A := A8) (B := []) M hA8).load (i := 0) (cs := _) (by rw [List.getElem?_map, ht21]; rfl)
   refine og K rfl rfl (Q0 (j := 0) el_S_api_Token (congrArg some q21) rfl (by rw [List.length_map]; omega)) rfl fun _ K => og K rfl rfl (Qe fo_api_Token_0 rfl) rfl fun _ K => og K rfl rfl (Qg rfl (lo21 _ 0 _ Ju rfl)) rfl fun _ K => og K rfl rfl (os_eqI rfl rfl) rfl fun _ K => o1 K (Qj rfl rfl rfl) rfl fun _ K => ?_
   refine oB K (Qc rfl) rfl fun b26 _ e26 K => ?_
   cases b26
   ·replace e26 := of_decide_eq_false e26
    refine gn K rfl rfl rfl rfl fun _ K => gn K rfl rfl rfl rfl fun _ K => gn K rfl rfl rfl rfl fun _ K => gn K rfl rfl rfl rfl fun _ K => gn K rfl rfl rfl rfl fun _ K => gn K rfl rfl rfl rfl fun _ K => o1 K (Qj rfl rfl rfl) rfl fun _ K => o1 K (Qb rfl) rfl fun _ K => Qd ?_
    show W _ _ _ _ _ _ _
    refine Qs ?_
    refine ⟨.inr rfl, _, (Qm (Qp K rfl)), ?_⟩
    refine ⟨?_, M.qt⟩
    simp_all [nameB, bif']
   ·replace e26 := of_decide_eq_true e26
    refine og K rfl rfl (Qc rfl) rfl fun _ K => ?_
    obtain ⟨t28, ht28⟩ : ∃ t, (tokens (bytesOf l)).1[0]? = some t := ⟨_, List.getElem?_eq_getElem (by omega)⟩
    obtain ⟨x28, m28, f28, q28, _, la28, lo28, lp28⟩ := (Mem.accR (L := []) (A := A8) (B := []) M hA8).load (i := 0) (cs := _) (by rw [List.getElem?_map, ht28]; rfl)
    refine og K rfl rfl (Q0 (j := 0) el_S_api_Token (congrArg some q28) rfl (by rw [List.length_map]; omega)) rfl fun _ K => og K rfl rfl (Qe fo_api_Token_1 rfl) rfl fun _ K => og K rfl rfl (Qg rfl (lo28 _ 1 _ Qx rfl)) rfl fun _ K => og K rfl rfl (Qc rfl) rfl fun _ K => og K rfl rfl (Jo rfl rfl) rfl fun _ K => o1 K (Qj rfl rfl rfl) rfl fun _ K => o1 K (Qb rfl) rfl fun _ K => Qd ?_
    show W _ _ _ _ _ _ _
    refine Qs ?_
    refine ⟨.inr rfl, _, (Qm (Qp K rfl)), ?_⟩
    refine ⟨?_, M.qt⟩
    simp_all [nameB, bif']

end Go.Proofs.YtmjnbdkjekdkgaaDoor
