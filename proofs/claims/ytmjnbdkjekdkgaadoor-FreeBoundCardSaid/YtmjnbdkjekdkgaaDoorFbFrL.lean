/-
  The names that are free: the program's answer is the reference's.
-/
import Derived.Test.YtmjnbdkjekdkgaaDoorFbTrQ
namespace Go.Proofs.YtmjnbdkjekdkgaaDoor
open Go Go.RowKit
set_option linter.unusedVariables false
set_option linter.unusedSimpArgs false

/-- Rising, each once. -/
def Rising (l : List (List Nat)) : Prop := l.Pairwise (· < ·)
theorem mem_compact {α : Type} [Inhabited α] [DecidableEq α] {zs : List α} {x : α} : x ∈ Lib.compact zs ↔ x ∈ zs := by
 unfold Lib.compact Lib.compactUpTo
 constructor
 ·intro h
  obtain ⟨i, hi, rfl⟩ := List.mem_map.1 h
  have hi' : i < zs.length := List.mem_range.1 (List.mem_filter.1 hi).1
  simp [getElem!_pos, hi']
 ·intro h
  obtain ⟨i, hi, rfl⟩ := List.getElem_of_mem h
  rw [List.mem_map]
  -- the least place of a run
  have : ∀ j (hj : j < zs.length), zs[j] = zs[i] → ∃ a, a ∈ (List.range zs.length).filter (Lib.keeps zs.toArray) ∧ (zs.toArray)[a]! = zs[i] := by
   intro j
   induction j with
   | zero => intro hj e; exact ⟨0, List.mem_filter.2 ⟨List.mem_range.2 hj, by simp [Lib.keeps]⟩, by simp [getElem!_pos, hj, e]⟩
   | succ j ih =>
    intro hj e
    by_cases h2 : zs[j] = zs[j + 1]
    ·exact ih (by omega) (h2.trans e)
    ·refine ⟨j + 1, List.mem_filter.2 ⟨List.mem_range.2 hj, ?_⟩, by simp [getElem!_pos, hj, e]⟩
     apply Lib.keeps_pos
     have : j < zs.length := by omega
     simp [getElem!_pos, hj, this]
     exact fun e => h2 e.symm
  exact this i hi rfl
theorem ofB_toB {s : List Nat} (h : Bytes s) : ofB (toB s) = s := by
 unfold ofB toB
 rw [List.map_map]
 conv => rhs; rw [← List.map_id s]
 refine List.map_congr_left fun x hx => ?_
 have := h x hx
 show (UInt8.ofNat x).toNat = x
 simp [UInt8.toNat_ofNat']
 omega
theorem toB_ofB (s : List UInt8) : toB (ofB s) = s := by
 unfold ofB toB
 rw [List.map_map]
 conv => rhs; rw [← List.map_id s]
 exact List.map_congr_left fun x hx => by simp
theorem sc_mem {l : List (List Nat)} (h : ∀ s ∈ l, Bytes s) (x : List Nat) : x ∈ compN (sortN l) ↔ x ∈ l := by
 unfold compN sortN
 rw [List.map_map, show (toB ∘ ofB) = id from funext toB_ofB, List.map_id, List.mem_map]
 constructor
 ·rintro ⟨y, hy, rfl⟩
  rw [mem_compact, sortB, List.mem_mergeSort] at hy
  obtain ⟨z, hz, rfl⟩ := List.mem_map.1 hy
  rw [ofB_toB (h z hz)]; exact hz
 ·intro hx
  refine ⟨toB x, ?_, ofB_toB (h x hx)⟩
  rw [mem_compact, sortB, List.mem_mergeSort]
  exact List.mem_map_of_mem hx

/-- Names and variables have no kids. -/
def bareN (x : Nd) : Bool := match x with
  | .mk op _ _ _ kids => (!(decide (op = [118, 97, 114]) || decide (op = [105, 115])) || kids.isEmpty) && kids.attach.all fun k => bareN k.1
termination_by szN x
decreasing_by
  all_goals
    simp_wf
    have := szL_mem k.2
    rw [szN]
    omega
theorem len0 {l : List Nd} (h : ((l.length : Nat) : Int) = 0) : l = [] := List.length_eq_zero_iff.1 (by omega)
theorem bare0 {nm : List Nat} {n m : Int} {kids : List Nd} (h : bareB nm n kids m = true) : ((kids.length : Nat) : Int) = m := by
 simp only [bareB, Bool.and_eq_true, decide_eq_true_eq] at h
 exact h.2.2
theorem mem_inB {s : List Nat} {l : List (List Nat)} : inB s l = true ↔ s ∈ l := by
 rw [inB, List.any_eq_true]
 constructor
 ·rintro ⟨x, hx, e⟩
  have e := of_decide_eq_true e
  subst e; exact hx
 ·exact fun h => ⟨s, h, decide_eq_true rfl⟩
theorem mem_namesL {z : List Nat} {b : List (List Nat)} : ∀ {l : List Nd}, z ∈ namesL l b ↔ ∃ k ∈ l, z ∈ namesN k b := by
 intro l
 induction l with
 | nil => simp [namesL]
 | cons k l ih =>
  rw [namesL, List.mem_append, ih]
  simp
theorem mem_namesN (x : Nd) : ∀ (b : List (List Nat)) (z : List Nat), z ∈ namesN x b ↔ z ∈ namesN x [] ∧ ¬ z ∈ b := by
 refine nd_rec (M := fun x => ∀ (b : List (List Nat)) (z : List Nat), z ∈ namesN x b ↔ z ∈ namesN x [] ∧ ¬ z ∈ b) (fun op name n a kids ih b z => ?_) x
 have hkids : ∀ c z, z ∈ namesL kids c ↔ z ∈ namesL kids [] ∧ ¬ z ∈ c := fun c z => by
  rw [mem_namesL, mem_namesL]
  constructor
  ·rintro ⟨k, hk, h⟩
   have := (ih k hk c z).1 h
   exact ⟨⟨k, hk, this.1⟩, this.2⟩
  ·rintro ⟨⟨k, hk, h⟩, h2⟩
   exact ⟨k, hk, (ih k hk c z).2 ⟨h, h2⟩⟩
 rw [namesN, namesN]
 split
 ·by_cases hb : inB name b = true
  ·rw [if_pos hb, if_neg (by simp [inB])]
   rw [mem_inB] at hb
   constructor
   ·intro h; cases h
   ·rintro ⟨h1, h2⟩
    rw [List.mem_singleton] at h1
    subst h1; exact absurd hb h2
  ·rw [if_neg hb, if_neg (by simp [inB])]
   rw [mem_inB] at hb
   constructor
   ·intro h
    refine ⟨h, ?_⟩
    rw [List.mem_singleton] at h
    subst h; exact hb
   ·exact fun h => h.1
 ·split
  ·rw [hkids (b ++ [name]), hkids ([] ++ [name])]
   simp only [List.mem_append, List.nil_append]
   constructor
   ·rintro ⟨h1, h2⟩; exact ⟨⟨h1, fun h => h2 (.inr h)⟩, fun h => h2 (.inl h)⟩
   ·rintro ⟨⟨h1, h2⟩, h3⟩; exact ⟨h1, fun h => h.elim h3 h2⟩
  ·exact hkids b z
end Go.Proofs.YtmjnbdkjekdkgaaDoor
