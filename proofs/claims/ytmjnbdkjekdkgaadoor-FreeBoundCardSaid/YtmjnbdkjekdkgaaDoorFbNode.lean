/-
  Formulas and terms in the reckoner's memory; are two of them one: the program's answer.
-/
import Derived.Test.YtmjnbdkjekdkgaaDoorProg
import Derived.Test.YtmjnbdkjekdkgaaDoorFbSy2
namespace Go.Proofs.YtmjnbdkjekdkgaaDoor
open Go Go.RowKit
set_option linter.unusedVariables false
set_option maxRecDepth 100000

/-- A formula or a term. -/
inductive Nd where
  | mk (op name : List Nat) (n at_ : Int) (kids : List Nd)
def Nd.kids : Nd → List Nd
 | .mk _ _ _ _ l => l
/-- No row that lies in memory. -/
def noSl : AV → Bool
  | .sl _ _ _ _ _ => false
  | _ => true
/-- It lies there. -/
inductive RdN (h : Hp) : Nd → List AV → Prop
  | leaf {op name : List Nat} {n at_ : Int} {ks : AV} (hs : slLen ks = some 0) (ha : noSl ks = true) (hb : Bytes op ∧ Bytes name) : RdN h (.mk op name n at_ []) [.str op, .str name, .int .i64 n, .int .i64 at_, ks]
  | node {op name : List Nat} {n at_ : Int} {kids : List Nd} {c m off : Nat} {cells : List AV} (hr : RowV h c m cells) (hn : (kids.length : Int) ≤ 9223372036854775807) (hl : off + kids.length * 5 ≤ cells.length)
      (hk : ∀ (i : Nat) (k : Nd), kids[i]? = some k → RdN h k ((cells.drop (off + i * 5)).take 5)) (hb : Bytes op ∧ Bytes name) : RdN h (.mk op name n at_ kids) [.str op, .str name, .int .i64 n, .int .i64 at_, .sl c m off kids.length 5]
theorem RdN.mono {h h' : Hp} (hl : RowLe h h') {t : Nd} {cs : List AV} (r : RdN h t cs) : RdN h' t cs := by
 induction r with
 | leaf hs ha hb => exact .leaf hs ha hb
 | node hr hn hl' hk hb ih => exact .node (hl _ _ _ hr) hn hl' ih hb
/-- A row of kids. -/
structure RdK (P : Program) (tn : TypeId) (h : Hp) (kids : List Nd) (ks : AV) : Prop where
  len : slLen ks = some kids.length
  bnd : (kids.length : Int) ≤ 9223372036854775807
  cell : isCell ks = true
  at_ : ∀ (i : Nat) (k : Nd), kids[i]? = some k → ∃ c m off cs, ks = .sl c m off kids.length 5 ∧ loadA P tn (.ptr c m (off + i * 5)) h = some (.agg cs) ∧ RdN h k cs
theorem slLen_cell {ks : AV} {n : Nat} (h : slLen ks = some n) : isCell ks = true := by
 cases ks <;> first | rfl | cases h
theorem RdN.open_ {P : Program} {tn : TypeId} (ht : tk P tn = .agg 5) {h : Hp} {op name : List Nat} {n at_ : Int} {kids : List Nd} {cs : List AV} (r : RdN h (.mk op name n at_ kids) cs) :
  ∃ ks, cs = [.str op, .str name, .int .i64 n, .int .i64 at_, ks] ∧ RdK P tn h kids ks := by
 cases r with
 | leaf hs ha hb => exact ⟨_, rfl, hs, by simp, slLen_cell hs, fun i k hk => by simp at hk⟩
 | node hr hn hl hk hb =>
  rename_i c m off cells
  refine ⟨_, rfl, rfl, hn, rfl, fun i k hki => ⟨c, m, off, _, rfl, ?_, hk i k hki⟩⟩
  obtain ⟨ro, e, vs, ms, h1, h2⟩ := hr
  have hlt := (List.getElem?_eq_some_iff.1 hki).1
  show ob (rowOf h c m) _ = _
  unfold rowOf
  rw [h1, Qo]
  show ob (ob (nth ms m) _) _ = _
  rw [nth_eq, h2]
  show partA P tn cells (off + i * 5) = _
  unfold partA
  rw [ht]
  show takeK 5 (dropN (off + i * 5) cells) (fun r => some (AV.agg r)) = _
  have htk : ∀ (n : Nat) (l : List AV) (k : List AV → Option AV), n ≤ l.length → takeK n l k = k (l.take n) := by
   intro n
   induction n with
   | zero => intro l k _; rfl
   | succ n ih =>
    intro l k hl
    cases l with
    | nil => simp at hl
    | cons a l => exact ih l _ (by simpa using hl)
  rw [htk, J0]
  rw [J0, List.length_drop]
  have : i * 5 + 5 ≤ kids.length * 5 := by omega
  omega
theorem Mem.rows {h0 : Hp} {n0 : Nat} {st : St} {M : List (Nat × Nat × List AV)} (hM : Mem h0 n0 [] st M) : RowLe h0 st.h.get := by
 rintro c m l ⟨ro, e, vs, ms, h1, h2⟩
 have hc : c < n0 := Nat.lt_of_not_le fun hle => by rw [hM.base c hle] at h1; cases h1
 exact ⟨ro, e, vs, ms, by rw [hM.old c hc (by simp)]; exact h1, h2⟩
mutual
def sameN : Nd → Nd → Bool
 | .mk op name n _ kids, .mk op' name' n' _ kids' => decide (op = op') && (decide (name = name') && (decide (n = n') && sameL kids kids'))
def sameL : List Nd → List Nd → Bool
 | [], [] => true
 | a :: l, b :: r => sameN a b && sameL l r
 | _, _ => false
end
mutual
def szN : Nd → Nat
 | .mk _ _ _ _ kids => szL kids + 1
def szL : List Nd → Nat
 | [] => 0
 | a :: l => szN a + szL l
end
theorem szL_mem {k : Nd} {l : List Nd} (h : k ∈ l) : szN k ≤ szL l := by
 induction l with
 | nil => cases h
 | cons a l ih =>
  rw [szL]
  rcases List.mem_cons.1 h with e | h
  ·rw [e]; omega
  ·have := ih h; omega
/-- By the size of what is looked at. -/
theorem nd_rec {M : Nd → Prop} (h : ∀ op name n at_ kids, (∀ k, k ∈ kids → M k) → M (.mk op name n at_ kids)) (k : Nd) : M k := by
  have : ∀ n k, szN k ≤ n → M k := by
    intro n
    induction n with
    | zero => intro k hk; cases k; rw [szN] at hk; omega
    | succ n ih =>
      intro k hk
      cases k with
      | mk op name z at_ kids =>
        rw [szN] at hk
        exact h _ _ _ _ _ fun k hm => ih k (by have := szL_mem hm; omega)
  exact this _ k (Nat.le_refl _)

/-! Types. -/
theorem tkN : tk Tryd.prog 24 = .agg 5 := by kernel_rfl
theorem uKids : Tryd.prog.underlying 22 = some (.slice 24) := by kernel_rfl
end Go.Proofs.YtmjnbdkjekdkgaaDoor
