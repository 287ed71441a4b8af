/-
  free.Names: a formula's free names.
-/
import Derived.Test.YtmjnbdkjekdkgaaDoorFbTrM
namespace Go.Proofs.YtmjnbdkjekdkgaaDoor
open Go Go.RowKit
set_option linter.unusedVariables false
set_option linter.unusedSimpArgs false
set_option linter.unnecessarySimpa false
set_option maxRecDepth 100000
set_option maxHeartbeats 1000000

/-- A formula's free names, in their order, each once. -/
def freeN (x : Nd) : List (List Nat) := compN (sortN (namesN x []))
theorem tNames_ev {o s : List Nat} {z a : Int} {l : List Nd} {st : St} {cs : List AV} (hf : Fresh st) (hr : RdN st.h.get (.mk o s z a l) cs) (hsz : szN (.mk o s z a l) ≤ 1000000) : ∃ v st', Ev Tryd.prog envD 23 [.agg cs] st v st' ∧ (∃ ks, v = ks ∧ RdR st'.h.get [] 1 (txC (freeN (.mk o s z a l))) ks) ∧ Qt st st' := by
 have hr0 := hr
 obtain ⟨kk, ls, rfl, hK, hb⟩ := hr.open5
 have hln := hK.ln
 have hbn := hK.bnd
 refine J5 rfl Tryd.func23 rfl Tryd.ntmps23 rfl (by decide) (by simp) fun T hT => ?_
 have K : KnT [(0, _)] T := (.cons (hT 0) .nil)
 have M := Mem.start hf
 refine Qh <| Qa ?_
 refine Ub K M rfl (Qf rfl (Qf rfl (Qf rfl (Qf rfl (Qf hK.cell Q7))))) (by decide) fun c1 _ _ K M => ?_
 refine o1 K (Qb rfl) rfl fun _ K => Qd ?_
 show W _ _ _ _ _ _ _
 refine Qh <| Qa <| o1 K (Qg rfl (M.load (k := 0) rfl (Ql Qi rfl))) rfl fun _ K => ?_
 obtain ⟨v5, st5, ev5, ks5, rfl, nr5, q5⟩ := names_ev _ [] .nils true _ _ M.fresh (hr0.mono M.rows) (RdR.nil _ _ _) (.inl ⟨rfl, rfl⟩) (by simpa using hsz)
 refine o1 K (Qn rfl ev5) rfl fun _ K => ?_
 obtain ⟨A5, hA5, M⟩ := M.callAcc q5 nr5
 refine o1 K (Qb rfl) rfl fun _ K => Qd ?_
 show W _ _ _ _ _ _ _
 refine Qh <| Qa <| o1 K (Qc rfl) rfl fun _ K => ?_
 obtain ⟨v7, st7, A7, ev7, rfl, M7, hA7⟩ := sort_acc (L := [(c1, 0, [.str o, .str s, .int .i64 z, .int .i64 a, kk])]) (A := A5) (B := []) M hA5
 refine o1 K (Qn rfl ev7) rfl fun _ K => ?_
 replace M := M7
 refine Qd ?_
 show W _ _ _ _ _ _ _
 refine Qh <| Qa <| o1 K (Qc rfl) rfl fun _ K => ?_
 obtain ⟨v9, st9, A9, ev9, hR9, M9⟩ := comp_acc (L := [(c1, 0, [.str o, .str s, .int .i64 z, .int .i64 a, kk])]) (A := A7) (B := []) M hA7
 refine o1 K (Qn rfl ev9) rfl fun _ K => ?_
 replace M := M9
 refine o1 K (Qb rfl) rfl fun _ K => Qd ?_
 show W _ _ _ _ _ _ _
 refine Qs ?_
 refine ⟨.inr rfl, _, (Qm (Qp K rfl)), ?_⟩
 exact ⟨⟨_, rfl, hR9⟩, M.qt⟩

end Go.Proofs.YtmjnbdkjekdkgaaDoor
