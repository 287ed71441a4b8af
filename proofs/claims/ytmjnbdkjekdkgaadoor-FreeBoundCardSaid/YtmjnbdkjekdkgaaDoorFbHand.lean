/-
  A formula or a term that a call is handed, as the reckoner has it.
-/
import Derived.ChangeShapes
import Derived.ChangeOld
import Derived.Below
import Derived.Carry
import Derived.Test.YtmjnbdkjekdkgaaDoorFbRdN
import Derived.Test.YtmjnbdkjekdkgaaDoorFbSy2
namespace Go.Proofs.YtmjnbdkjekdkgaaDoor
open Go Go.RowKit
set_option linter.unusedVariables false

theorem plain_node : plainSet Tryd.prog [24, 22, 9, 3] = true := by kernel_rfl
theorem hand_node {H : Type} {enc : TypeId × Value → H} {W : World} {ml : Mbs} (hM : GoodM W ml) {v : Value} {d : DataW H} {p : List MemPlace} (h : DataW.Trod enc Tryd.prog W 0 (fun _ => true) true 24 v d p) :
  ∃ ml' cs k, ml <+: ml' ∧ GoodM W ml' ∧ RdN (hpM ml') k cs ∧ WF (hpM ml') (.agg cs) ∧ conc (plM ml') (.agg cs) = v := by
 obtain ⟨fuel, h⟩ := h
 obtain ⟨ml', cs, h1, h2, h3, h4, h5, h6⟩ := lift _ plain_node fuel 24 _ d p ml (by simp) h hM
 obtain ⟨k, hk⟩ := rd_node h6
 refine ⟨ml', cs, k, h1, h2, hk, h4, ?_⟩
 obtain ⟨e1, e2⟩ := conc_of_cells h3 h5
 by_cases hv : ∃ cs, v = .agg cs
 ·exact e1 hv
 ·obtain ⟨a, rfl, _⟩ := e2 fun cs e => hv ⟨cs, e⟩
  obtain ⟨op, name, n, at_, kids⟩ := k
  obtain ⟨ks, e, _⟩ := hk.open_ tkN
  cases e
/-- Where more lies, it lies as before. -/
theorem hand_more {ml ml' : Mbs} (h : ml <+: ml') {cs : List AV} {k : Nd} (hk : RdN (hpM ml) k cs) (hw : WF (hpM ml) (.agg cs)) : RdN (hpM ml') k cs ∧ WF (hpM ml') (.agg cs) ∧ conc (plM ml') (.agg cs) = conc (plM ml) (.agg cs) :=
  ⟨hk.mono (rowM_le h), WF.grow (hpM_grow h) _ hw, concM h hw⟩
end Go.Proofs.YtmjnbdkjekdkgaaDoor
