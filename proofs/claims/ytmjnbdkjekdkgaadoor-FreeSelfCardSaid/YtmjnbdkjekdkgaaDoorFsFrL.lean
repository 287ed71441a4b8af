/-
  The names that are free: the program's answer is the reference's.
-/
import Derived.Test.YtmjnbdkjekdkgaaDoorFsTrQ
namespace Go.Proofs.YtmjnbdkjekdkgaaDoor
open Go Go.RowKit
set_option linter.unusedVariables false
set_option linter.unusedSimpArgs false

/-- Rising, each once. -/
def Rising (l : List (List Nat)) : Prop := l.Pairwise (· < ·)
theorem mem_compact {α : Type} [Inhabited α] [DecidableEq α] {zs : List α} {x : α} : x ∈ Lib.compact zs ↔ x ∈ zs := by
 unfold Lib.compact Lib.compactUpTo
 constructor
 ·intro h
  obtain ⟨i, hi, rfl⟩ := List.mem_map.1 h
  have hi' : i < zs.length := List.mem_range.1 (List.mem_filter.1 hi).1
  simp [getElem!_pos, hi']
 ·intro h
  obtain ⟨i, hi, rfl⟩ := List.getElem_of_mem h
  rw [List.mem_map]
  -- the least place of a run
  have : ∀ j (hj : j < zs.length), zs[j] = zs[i] → ∃ a, a ∈ (List.range zs.length).filter (Lib.keeps zs.toArray) ∧ (zs.toArray)[a]! = zs[i] := by
   intro j
   induction j with
   | zero => intro hj e; exact ⟨0, List.mem_filter.2 ⟨List.mem_range.2 hj, by simp [Lib.keeps]⟩, by simp [getElem!_pos, hj, e]⟩
   | succ j ih =>
    intro hj e
    by_cases h2 : zs[j] = zs[j + 1]
    ·exact ih (by omega) (h2.trans e)
    ·refine ⟨j + 1, List.mem_filter.2 ⟨List.mem_range.2 hj, ?_⟩, by simp [getElem!_pos, hj, e]⟩
     apply Lib.keeps_pos
     have : j < zs.length := by omega
     simp [getElem!_pos, hj, this]
     exact fun e => h2 e.symm
  exact this i hi rfl
theorem ofB_toB {s : List Nat} (h : Bytes s) : ofB (toB s) = s := by
 unfold ofB toB
 rw [List.map_map]
 conv => rhs; rw [← List.map_id s]
 refine List.map_congr_left fun x hx => ?_
 have := h x hx
 show (UInt8.ofNat x).toNat = x
 simp [UInt8.toNat_ofNat']
 omega
theorem toB_ofB (s : List UInt8) : toB (ofB s) = s := by
 unfold ofB toB
 rw [List.map_map]
 conv => rhs; rw [← List.map_id s]
 exact List.map_congr_left fun x hx => by simp
theorem sc_mem {l : List (List Nat)} (h : ∀ s ∈ l, Bytes s) (x : List Nat) : x ∈ compN (sortN l) ↔ x ∈ l := by
 unfold compN sortN
 rw [List.map_map, show (toB ∘ ofB) = id from funext toB_ofB, List.map_id, List.mem_map]
 constructor
 ·rintro ⟨y, hy, rfl⟩
  rw [mem_compact, sortB, List.mem_mergeSort] at hy
  obtain ⟨z, hz, rfl⟩ := List.mem_map.1 hy
  rw [ofB_toB (h z hz)]; exact hz
 ·intro hx
  refine ⟨toB x, ?_, ofB_toB (h x hx)⟩
  rw [mem_compact, sortB, List.mem_mergeSort]
  exact List.mem_map_of_mem hx

/-- Names and variables have no kids. -/
def bareN (x : Nd) : Bool := match x with
  | .mk op _ _ _ kids => (!(decide (op = [118, 97, 114]) || decide (op = [105, 115])) || kids.isEmpty) && kids.attach.all fun k => bareN k.1
termination_by szN x
decreasing_by
  all_goals
    simp_wf
    have := szL_mem k.2
    rw [szN]
    omega
theorem bareN_mk (op name : List Nat) (n at_ : Int) (kids : List Nd) : bareN (.mk op name n at_ kids) = ((!(decide (op = [118, 97, 114]) || decide (op = [105, 115])) || kids.isEmpty) && kids.all bareN) := by
 rw [bareN, attach_all kids bareN]
theorem len0 {l : List Nd} (h : ((l.length : Nat) : Int) = 0) : l = [] := List.length_eq_zero_iff.1 (by omega)
theorem termN_bare (x : Nd) : termN x = true → bareN x = true := by
 refine nd_rec (M := fun x => termN x = true → bareN x = true) (fun op name n a kids ih h => ?_) x
 rw [bareN_mk]
 rw [termN_mk] at h
 have hall : (∀ k ∈ kids, termN k = true) → kids.all bareN = true := fun h => List.all_eq_true.2 fun k hk => ih k hk (h k hk)
 split at h
 ·simp only [Bool.and_eq_true, decide_eq_true_eq] at h
  rw [len0 h.2.2]; simp
 ·rename_i hv
  have e1 : decide (op = [118, 97, 114]) = false := decide_eq_false hv
  split at h
  ·simp only [Bool.and_eq_true, decide_eq_true_eq] at h
   rw [len0 h.2.2.2]; simp
  ·split at h
   ·rename_i hp
    subst hp
    simp only [Bool.and_eq_true, decide_eq_true_eq, List.all_eq_true] at h
    rw [hall fun k hk => (h.2.2.2.2 k hk).2]; rfl
   ·split at h
    ·rename_i hp
     subst hp
     simp only [Bool.and_eq_true, decide_eq_true_eq, List.all_eq_true, partB] at h
     rw [hall fun k hk => (h.2.2.2 k hk).1]; rfl
    ·split at h
     ·rename_i hp
      simp only [Bool.and_eq_true, List.all_eq_true] at h
      rw [hall h.2.1, e1]
      have : decide (op = [105, 115]) = false := decide_eq_false fun e => by subst e; exact absurd hp (by decide)
      rw [this]; rfl
     ·cases h
theorem bare0 {nm : List Nat} {n m : Int} {kids : List Nd} (h : bareB nm n kids m = true) : ((kids.length : Nat) : Int) = m := by
 simp only [bareB, Bool.and_eq_true, decide_eq_true_eq] at h
 exact h.2.2
theorem formN_bare (x : Nd) : formN x = true → bareN x = true := by
 refine nd_rec (M := fun x => formN x = true → bareN x = true) (fun op name n a kids ih h => ?_) x
 rw [bareN_mk]
 rw [formN_mk] at h
 have hall : (∀ k ∈ kids, formN k = true) → kids.all bareN = true := fun h => List.all_eq_true.2 fun k hk => ih k hk (h k hk)
 have hallT : (∀ k ∈ kids, termN k = true) → kids.all bareN = true := fun h => List.all_eq_true.2 fun k hk => termN_bare k (h k hk)
 have no : ∀ ls : List (List Nat), oneOf op ls = true → ls.contains [118, 97, 114] = false → ls.contains [105, 115] = false → (decide (op = [118, 97, 114]) || decide (op = [105, 115])) = false := by
  intro ls h h1 h2
  rw [oneOf, List.any_eq_true] at h
  obtain ⟨y, hy, e⟩ := h
  have e := of_decide_eq_true e
  subst e
  rw [Bool.or_eq_false_iff]
  refine ⟨decide_eq_false fun e => ?_, decide_eq_false fun e => ?_⟩
  ·subst e; rw [List.contains_eq_mem, decide_eq_false_iff_not] at h1; exact h1 hy
  ·subst e; rw [List.contains_eq_mem, decide_eq_false_iff_not] at h2; exact h2 hy
 split at h
 ·rw [len0 (bare0 h)]; simp
 ·split at h
  ·rename_i hp
   subst hp
   simp only [Bool.and_eq_true, List.all_eq_true] at h
   rw [hall h.2]; rfl
  ·split at h
   ·rename_i hp
    simp only [Bool.and_eq_true, List.all_eq_true] at h
    rw [hall h.2, no _ hp rfl rfl]; rfl
   ·split at h
    ·rename_i hp
     simp only [Bool.and_eq_true, List.all_eq_true] at h
     rw [hall h.2.2.2.2, no _ hp rfl rfl]; rfl
    ·split at h
     ·simp only [Bool.and_eq_true, decide_eq_true_eq] at h
      rw [len0 h.2.2]; simp
     ·split at h
      ·rename_i hp
       simp only [Bool.and_eq_true, List.all_eq_true] at h
       rw [hallT h.2, no _ hp rfl rfl]; rfl
      ·split at h
       ·rename_i hp
        subst hp
        simp only [Bool.and_eq_true, List.all_eq_true] at h
        rw [hallT h.2.2.2]; rfl
       ·cases h
theorem mem_inB {s : List Nat} {l : List (List Nat)} : inB s l = true ↔ s ∈ l := by
 rw [inB, List.any_eq_true]
 constructor
 ·rintro ⟨x, hx, e⟩
  have e := of_decide_eq_true e
  subst e; exact hx
 ·exact fun h => ⟨s, h, decide_eq_true rfl⟩
end Go.Proofs.YtmjnbdkjekdkgaaDoor
