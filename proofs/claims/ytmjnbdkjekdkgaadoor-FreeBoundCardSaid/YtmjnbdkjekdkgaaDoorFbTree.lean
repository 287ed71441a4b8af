/-
  Formulas and terms in the reckoner's memory, by rows; what a formula is, what a term is, how great, how deep.
-/
import Derived.Test.YtmjnbdkjekdkgaaDoorFbNode
import Derived.Test.YtmjnbdkjekdkgaaDoorFbRrN
namespace Go.Proofs.YtmjnbdkjekdkgaaDoor
open Go Go.RowKit
set_option linter.unusedVariables false
set_option maxRecDepth 100000

/-- The kids of a node. -/
structure KidsR (h : Hp) (kids : List Nd) (kk : AV) (ls : List (List AV)) : Prop where
  r : RdR h [] 5 ls kk
  ln : ls.length = kids.length
  at_ : ∀ (i : Nat) (k : Nd), kids[i]? = some k → ∃ cs, ls[i]? = some cs ∧ RdN h k cs
theorem KidsR.len {h : Hp} {kids : List Nd} {kk : AV} {ls : List (List AV)} (H : KidsR h kids kk ls) : slLen kk = some kids.length := by rw [← H.ln]; exact H.r.len
theorem KidsR.cell {h : Hp} {kids : List Nd} {kk : AV} {ls : List (List AV)} (H : KidsR h kids kk ls) : isCell kk = true := H.r.cell
theorem KidsR.bnd {h : Hp} {kids : List Nd} {kk : AV} {ls : List (List AV)} (H : KidsR h kids kk ls) : (kids.length : Int) ≤ 9223372036854775807 := by rw [← H.ln]; exact H.r.bnd
theorem RdN.open5 {h : Hp} {op name : List Nat} {n at_ : Int} {kids : List Nd} {cs : List AV} (r : RdN h (.mk op name n at_ kids) cs) :
  ∃ kk ls, cs = [.str op, .str name, .int .i64 n, .int .i64 at_, kk] ∧ KidsR h kids kk ls ∧ Bytes op ∧ Bytes name := by
 cases r with
 | leaf hs ha hb =>
  rename_i ks
  refine ⟨ks, [], rfl, ⟨⟨hs, by simp, slLen_cell hs, fun i cs hi => by simp at hi, fun c m off n z e => by subst e; cases ha⟩, rfl, fun i k hi => by simp at hi⟩, hb⟩
 | node hr hn hl hk hb =>
  rename_i c m off cells
  have hlen : ((List.range kids.length).map fun i => (cells.drop (off + i * 5)).take 5).length = kids.length := by simp
  have hat : ∀ (i : Nat) (cs : List AV), ((List.range kids.length).map fun i => (cells.drop (off + i * 5)).take 5)[i]? = some cs → i < kids.length ∧ cs = (cells.drop (off + i * 5)).take 5 := by
   intro i cs hi
   rw [List.getElem?_map] at hi
   have hlt : i < kids.length := by
    by_cases h : i < kids.length
    ·exact h
    ·rw [List.getElem?_eq_none (by simp; omega)] at hi; cases hi
   rw [List.getElem?_range hlt] at hi
   injection hi with hi
   exact ⟨hlt, hi.symm⟩
  refine ⟨_, (List.range kids.length).map fun i => (cells.drop (off + i * 5)).take 5, rfl, ⟨⟨by rw [hlen]; rfl, by rw [hlen]; exact hn, rfl, fun i cs hi => ?_, fun c' m' off' n' z e => ?_⟩, hlen, fun i k hi => ?_⟩, hb⟩
  ·obtain ⟨h1, rfl⟩ := hat i cs hi
   refine ⟨c, m, off, cells, by rw [hlen], by simp, hr, ?_, rfl⟩
   rw [List.length_take, List.length_drop]
   omega
  ·injection e with e1 e2 e3 e4 e5
   subst e1 e2 e3 e4 e5
   exact ⟨by simp, cells, hr, hl⟩
  ·have hlt := (List.getElem?_eq_some_iff.1 hi).1
   refine ⟨_, ?_, hk i k hi⟩
   rw [List.getElem?_map, List.getElem?_range hlt]; rfl
def Nd.op : Nd → List Nat
 | .mk op _ _ _ _ => op
theorem kids_mem {kids : List Nd} {i : Nat} {k : Nd} (h : kids[i]? = some k) : k ∈ kids := List.mem_of_getElem? h

/-! How great, how deep. -/
mutual
def dpN : Nd → Nat
 | .mk _ _ _ _ kids => dpL kids + 1
def dpL : List Nd → Nat
 | [] => 0
 | a :: l => max (dpN a) (dpL l)
end
theorem szN_pos (k : Nd) : 1 ≤ szN k := by cases k; rw [szN]; omega
theorem dpN_pos (k : Nd) : 1 ≤ dpN k := by cases k; rw [dpN]; omega
theorem szL_step {kids : List Nd} {i : Nat} {k : Nd} (h : kids[i]? = some k) : szL (kids.drop i) = szN k + szL (kids.drop (i + 1)) := by
 obtain ⟨h1, h2⟩ := List.getElem?_eq_some_iff.1 h
 rw [List.drop_eq_getElem_cons h1, szL, h2]
theorem dpL_step {kids : List Nd} {i : Nat} {k : Nd} (h : kids[i]? = some k) : dpL (kids.drop i) = max (dpN k) (dpL (kids.drop (i + 1))) := by
 obtain ⟨h1, h2⟩ := List.getElem?_eq_some_iff.1 h
 rw [List.drop_eq_getElem_cons h1, dpL, h2]
theorem all_step {kids : List Nd} {i : Nat} {k : Nd} {p : Nd → Bool} (h : kids[i]? = some k) : (kids.drop i).all p = (p k && (kids.drop (i + 1)).all p) := by
 obtain ⟨h1, h2⟩ := List.getElem?_eq_some_iff.1 h
 rw [List.drop_eq_getElem_cons h1, List.all_cons, h2]
theorem Jl {α : Type} {l : List α} {i : Nat} (h : l.length ≤ i) : l.drop i = [] := List.drop_eq_nil_of_le h

/-! What a term is, what a formula is. -/
/-- 'var' and the others. -/
def oVar : List Nat := [118, 97, 114]
def oNum : List Nat := [110, 117, 109]
def oPlus : List Nat := [112, 108, 117, 115]
def oSet : List Nat := [115, 101, 116]
def isSetB (op : List Nat) : Bool := decide (op = [117, 110, 105, 111, 110]) || (decide (op = [105, 110, 116, 101, 114]) || decide (op = [109, 105, 110, 117, 115]))
def bareB (name : List Nat) (n : Int) (kids : List Nd) (m : Int) : Bool := decide (name = []) && (decide (n = 0) && decide (((kids.length : Nat) : Int) = m))
def termN (x : Nd) : Bool := match x with
 | .mk op name n _ kids =>
  if op = oVar then nameB name && (decide (n = 0) && decide (((kids.length : Nat) : Int) = 0))
  else if op = oNum then decide (name = []) && (decide (0 ≤ n) && (decide (n ≤ 99) && decide (((kids.length : Nat) : Int) = 0)))
  else if op = oPlus then decide (name = []) && (decide (1 ≤ n) && (decide (n ≤ 99) && (decide (((kids.length : Nat) : Int) = 1) && kids.attach.all fun k => decide (k.1.op = oVar) && termN k.1)))
  else if op = oSet then decide (name = []) && (decide (n = 0) && (decide (((kids.length : Nat) : Int) ≤ 6) && kids.attach.all fun k => termN k.1 && (!isSetB k.1.op && !decide (k.1.op = oSet))))
  else if isSetB op then bareB name n kids 2 && ((kids.attach.all fun k => termN k.1) && (match kids[1]? with | some k => !isSetB k.op | none => true))
  else false
termination_by szN x
decreasing_by
 all_goals
  simp_wf
  have := szL_mem k.2
  rw [szN]
  omega
theorem attach_all {α : Type} (l : List α) (p : α → Bool) : (l.attach.all fun x => p x.1) = l.all p := by
 rw [List.all_eq, List.all_eq]
 simp
def partB (k : Nd) : Bool := termN k && (!isSetB k.op && !decide (k.op = oSet))
theorem Ua (op name : List Nat) (n at_ : Int) (kids : List Nd) : termN (.mk op name n at_ kids) =
  if op = oVar then nameB name && (decide (n = 0) && decide (((kids.length : Nat) : Int) = 0))
  else if op = oNum then decide (name = []) && (decide (0 ≤ n) && (decide (n ≤ 99) && decide (((kids.length : Nat) : Int) = 0)))
  else if op = oPlus then decide (name = []) && (decide (1 ≤ n) && (decide (n ≤ 99) && (decide (((kids.length : Nat) : Int) = 1) && kids.all fun k => decide (k.op = oVar) && termN k)))
  else if op = oSet then decide (name = []) && (decide (n = 0) && (decide (((kids.length : Nat) : Int) ≤ 6) && kids.all partB))
  else if isSetB op then bareB name n kids 2 && ((kids.all termN) && (match kids[1]? with | some k => !isSetB k.op | none => true))
  else false := by
 rw [termN]
 rw [attach_all kids fun k => decide (k.op = oVar) && termN k, attach_all kids fun k => termN k && (!isSetB k.op && !decide (k.op = oSet)), attach_all kids termN]
 rfl
def oneOf (op : List Nat) (l : List (List Nat)) : Bool := l.any fun x => decide (op = x)
def formN (x : Nd) : Bool := match x with
 | .mk op name n _ kids =>
  if oneOf op [[116, 114, 117, 101], [102, 97, 108, 115, 101]] then bareB name n kids 0
  else if op = [110, 111, 116] then bareB name n kids 1 && kids.attach.all fun k => formN k.1
  else if oneOf op [[97, 110, 100], [111, 114], [105, 109, 112], [105, 102, 102]] then bareB name n kids 2 && kids.attach.all fun k => formN k.1
  else if oneOf op [[101, 120], [97, 108, 108]] then nameB name && (decide (0 ≤ n) && (decide (n < 3) && (decide (((kids.length : Nat) : Int) = 1) && kids.attach.all fun k => formN k.1)))
  else if op = [105, 115] then nameB name && (decide (n = 0) && decide (((kids.length : Nat) : Int) = 0))
  else if oneOf op [[101, 113], [110, 101], [108, 116], [108, 101], [105, 110], [110, 111, 116, 105, 110], [115, 117, 98]] then bareB name n kids 2 && kids.all termN
  else if op = [99, 97, 108, 108] then nameB name && (decide (n = 0) && (decide (((kids.length : Nat) : Int) ≤ 6) && kids.all termN))
  else false
termination_by szN x
decreasing_by
 all_goals
  simp_wf
  have := szL_mem k.2
  rw [szN]
  omega
theorem Uh (op name : List Nat) (n at_ : Int) (kids : List Nd) : formN (.mk op name n at_ kids) =
  if oneOf op [[116, 114, 117, 101], [102, 97, 108, 115, 101]] then bareB name n kids 0
  else if op = [110, 111, 116] then bareB name n kids 1 && kids.all formN
  else if oneOf op [[97, 110, 100], [111, 114], [105, 109, 112], [105, 102, 102]] then bareB name n kids 2 && kids.all formN
  else if oneOf op [[101, 120], [97, 108, 108]] then nameB name && (decide (0 ≤ n) && (decide (n < 3) && (decide (((kids.length : Nat) : Int) = 1) && kids.all formN)))
  else if op = [105, 115] then nameB name && (decide (n = 0) && decide (((kids.length : Nat) : Int) = 0))
  else if oneOf op [[101, 113], [110, 101], [108, 116], [108, 101], [105, 110], [110, 111, 116, 105, 110], [115, 117, 98]] then bareB name n kids 2 && kids.all termN
  else if op = [99, 97, 108, 108] then nameB name && (decide (n = 0) && (decide (((kids.length : Nat) : Int) ≤ 6) && kids.all termN))
  else false := by
 rw [formN]
 rw [attach_all kids formN]
end Go.Proofs.YtmjnbdkjekdkgaaDoor
