/-
  The names that are free: the program's answer is the reference's.
-/
import Derived.Test.YtmjnbdkjekdkgaaDoorFlTrQ
namespace Go.Proofs.YtmjnbdkjekdkgaaDoor
open Go Go.RowKit
set_option linter.unusedVariables false
set_option linter.unusedSimpArgs false

theorem ltT_lt : ∀ (a b : List Nat), ltT a b = decide (a < b) := by
 intro a
 induction a with
 | nil => intro b; cases b with
  | nil => rfl
  | cons y t => show true = _; simp
 | cons x a ih =>
  intro b
  cases b with
  | nil => show false = _; simp
  | cons y t =>
   show bif' (Nat.ble (Nat.succ x) y) true (bif' (Nat.beq x y) (ltT a t) false) = _
   rw [ih]
   by_cases h1 : x < y
   ·rw [Nat.ble_eq_true_of_le h1]
    simp [bif', List.cons_lt_cons_iff, h1]
   ·have : Nat.ble (Nat.succ x) y = false := by
     cases h : Nat.ble (Nat.succ x) y with
     | false => rfl
     | true => exact absurd (Nat.le_of_ble_eq_true h) h1
    rw [this]
    by_cases h2 : x = y
    ·subst h2
     simp [bif']
    ·have : Nat.beq x y = false := by
      cases h : Nat.beq x y with
      | false => rfl
      | true => exact absurd (Nat.eq_of_beq_eq_true h) h2
     rw [this]
     simp [bif', List.cons_lt_cons_iff, h1, h2]
/-- Rising, each once. -/
def Rising (l : List (List Nat)) : Prop := l.Pairwise (· < ·)
theorem rising_eq : ∀ {a b : List (List Nat)}, Rising a → Rising b → (∀ x, x ∈ a ↔ x ∈ b) → a = b := by
 intro a
 induction a with
 | nil =>
  intro b _ _ h
  cases b with
  | nil => rfl
  | cons y b => have := (h y).2 (List.mem_cons_self ..); simp at this
 | cons x a ih =>
  intro b ha hb h
  cases b with
  | nil => have := (h x).1 (List.mem_cons_self ..); simp at this
  | cons y b =>
   obtain ⟨ha1, ha2⟩ := List.pairwise_cons.1 ha
   obtain ⟨hb1, hb2⟩ := List.pairwise_cons.1 hb
   have hxy : x = y := by
    rcases List.mem_cons.1 ((h x).1 (List.mem_cons_self ..)) with e | e
    ·exact e
    ·rcases List.mem_cons.1 ((h y).2 (List.mem_cons_self ..)) with e' | e'
     ·exact e'.symm
     ·exact absurd (List.lt_trans (hb1 _ e) (ha1 _ e')) (List.lt_irrefl _)
   subst hxy
   congr 1
   refine ih ha2 hb2 fun z => ⟨fun hz => ?_, fun hz => ?_⟩
   ·rcases List.mem_cons.1 ((h z).1 (List.mem_cons_of_mem _ hz)) with e | e
    ·subst e; exact absurd (ha1 _ hz) (List.lt_irrefl _)
    ·exact e
   ·rcases List.mem_cons.1 ((h z).2 (List.mem_cons_of_mem _ hz)) with e | e
    ·subst e; exact absurd (hb1 _ hz) (List.lt_irrefl _)
    ·exact e
theorem mem_insN (x z : List Nat) (l : List (List Nat)) : z ∈ insN x l ↔ z = x ∨ z ∈ l := by
 induction l with
 | nil => simp [insN]
 | cons y l ih =>
  rw [insN]
  split
  ·rw [List.mem_cons, ih, List.mem_cons]
   constructor
   ·rintro (h | h | h)
    ·exact .inr (.inl h)
    ·exact .inl h
    ·exact .inr (.inr h)
   ·rintro (h | h | h)
    ·exact .inr (.inl h)
    ·exact .inl h
    ·exact .inr (.inr h)
  ·split
   ·rename_i h; subst h; simp
   ·simp
theorem lt_tri {α : Type} [LT α] [DecidableEq α] [DecidableLT α] [Std.Trichotomous (α := α) (· < ·)] {a b : List α} (h1 : ¬ a < b) (h2 : ¬ a = b) : b < a := by
 by_cases h : b < a
 ·exact h
 ·exact absurd (List.le_antisymm (List.not_lt.1 h) (List.not_lt.1 h1)) h2
theorem rising_insN (x : List Nat) {l : List (List Nat)} (h : Rising l) : Rising (insN x l) := by
 induction l with
 | nil => exact List.pairwise_singleton _ _
 | cons y l ih =>
  obtain ⟨h1, h2⟩ := List.pairwise_cons.1 h
  rw [insN]
  split
  ·rename_i hlt
   rw [ltT_lt] at hlt
   refine List.pairwise_cons.2 ⟨fun z hz => ?_, ih h2⟩
   rcases (mem_insN x z l).1 hz with e | e
   ·subst e; exact of_decide_eq_true hlt
   ·exact h1 z e
  ·split
   ·exact h
   ·rename_i hlt hne
    rw [ltT_lt] at hlt
    have hxy : x < y := lt_tri (by simpa using hlt) hne
    refine List.pairwise_cons.2 ⟨fun z hz => ?_, h⟩
    rcases List.mem_cons.1 hz with e | e
    ·subst e; exact hxy
    ·exact List.lt_trans hxy (h1 z e)
theorem mem_compact {α : Type} [Inhabited α] [DecidableEq α] {zs : List α} {x : α} : x ∈ Lib.compact zs ↔ x ∈ zs := by
 unfold Lib.compact Lib.compactUpTo
 constructor
 ·intro h
  obtain ⟨i, hi, rfl⟩ := List.mem_map.1 h
  have hi' : i < zs.length := List.mem_range.1 (List.mem_filter.1 hi).1
  simp [getElem!_pos, hi']
 ·intro h
  obtain ⟨i, hi, rfl⟩ := List.getElem_of_mem h
  rw [List.mem_map]
  -- the least place of a run
  have : ∀ j (hj : j < zs.length), zs[j] = zs[i] → ∃ a, a ∈ (List.range zs.length).filter (Lib.keeps zs.toArray) ∧ (zs.toArray)[a]! = zs[i] := by
   intro j
   induction j with
   | zero => intro hj e; exact ⟨0, List.mem_filter.2 ⟨List.mem_range.2 hj, by simp [Lib.keeps]⟩, by simp [getElem!_pos, hj, e]⟩
   | succ j ih =>
    intro hj e
    by_cases h2 : zs[j] = zs[j + 1]
    ·exact ih (by omega) (h2.trans e)
    ·refine ⟨j + 1, List.mem_filter.2 ⟨List.mem_range.2 hj, ?_⟩, by simp [getElem!_pos, hj, e]⟩
     apply Lib.keeps_pos
     have : j < zs.length := by omega
     simp [getElem!_pos, hj, this]
     exact fun e => h2 e.symm
  exact this i hi rfl
theorem compact_rising {zs : List (List UInt8)} (h : zs.Pairwise (· ≤ ·)) : (Lib.compact zs).Pairwise (· < ·) := by
 unfold Lib.compact Lib.compactUpTo
 rw [List.pairwise_map]
 refine List.Pairwise.imp_of_mem ?_ (List.Pairwise.filter _ List.pairwise_lt_range)
 intro i j hi hj hij
 have hj1 := List.mem_filter.1 hj
 have hjl : j < zs.length := List.mem_range.1 hj1.1
 have hk := hj1.2
 have hil : i < zs.length := by omega
 have hj1l : j - 1 < zs.length := by omega
 simp only [Lib.keeps, decide_eq_true_eq] at hk
 rcases hk with hk | hk
 ·omega
 ·have e1 : zs.toArray[j]! = zs[j] := by simp [getElem!_pos, hjl]
  have e2 : zs.toArray[j - 1]! = zs[j - 1] := by simp [getElem!_pos, hj1l]
  have e3 : zs.toArray[i]! = zs[i] := by simp [getElem!_pos, hil]
  rw [e1, e2] at hk
  rw [e3, e1]
  have hle : zs[j - 1] ≤ zs[j] := List.pairwise_iff_getElem.1 h _ _ _ _ (by omega)
  have hlt : zs[j - 1] < zs[j] := by
   exact lt_tri (fun h => absurd hle (List.not_le.2 h)) hk
  by_cases hij' : i = j - 1
  ·subst hij'; exact hlt
  ·exact List.lt_of_le_of_lt (List.pairwise_iff_getElem.1 h _ _ _ _ (by omega)) hlt
theorem sortB_sorted (zs : List (List UInt8)) : (sortB zs).Pairwise (· ≤ ·) := by
 have := List.pairwise_mergeSort (le := fun x y : List UInt8 => decide (x ≤ y)) (fun a b c h1 h2 => by simp at *; exact List.le_trans h1 h2) (fun a b => by simp; exact List.le_total a b) zs
 exact this.imp fun h => by simpa using h
theorem ofB_lt {a b : List UInt8} (h : a < b) : ofB a < ofB b := by
 induction a generalizing b with
 | nil => cases b with
  | nil => exact absurd h (List.lt_irrefl _)
  | cons y b => exact List.nil_lt_cons _ _
 | cons x a ih => cases b with
  | nil => simp at h
  | cons y b =>
   rw [List.cons_lt_cons_iff] at h
   show x.toNat :: ofB a < y.toNat :: ofB b
   rw [List.cons_lt_cons_iff]
   rcases h with h | ⟨rfl, h⟩
   ·exact .inl h
   ·exact .inr ⟨rfl, ih h⟩
theorem ofB_toB {s : List Nat} (h : Bytes s) : ofB (toB s) = s := by
 unfold ofB toB
 rw [List.map_map]
 conv => rhs; rw [← List.map_id s]
 refine List.map_congr_left fun x hx => ?_
 have := h x hx
 show (UInt8.ofNat x).toNat = x
 simp [UInt8.toNat_ofNat']
 omega
theorem toB_ofB (s : List UInt8) : toB (ofB s) = s := by
 unfold ofB toB
 rw [List.map_map]
 conv => rhs; rw [← List.map_id s]
 exact List.map_congr_left fun x hx => by simp
theorem sc_rising (l : List (List Nat)) : Rising (compN (sortN l)) := by
 unfold compN sortN
 rw [List.map_map, show (toB ∘ ofB) = id from funext toB_ofB, List.map_id]
 unfold Rising
 rw [List.pairwise_map]
 exact (compact_rising (sortB_sorted _)).imp ofB_lt
theorem sc_mem {l : List (List Nat)} (h : ∀ s ∈ l, Bytes s) (x : List Nat) : x ∈ compN (sortN l) ↔ x ∈ l := by
 unfold compN sortN
 rw [List.map_map, show (toB ∘ ofB) = id from funext toB_ofB, List.map_id, List.mem_map]
 constructor
 ·rintro ⟨y, hy, rfl⟩
  rw [mem_compact, sortB, List.mem_mergeSort] at hy
  obtain ⟨z, hz, rfl⟩ := List.mem_map.1 hy
  rw [ofB_toB (h z hz)]; exact hz
 ·intro hx
  refine ⟨toB x, ?_, ofB_toB (h x hx)⟩
  rw [mem_compact, sortB, List.mem_mergeSort]
  exact List.mem_map_of_mem hx

/-- Names and variables have no kids. -/
def bareN (x : Nd) : Bool := match x with
  | .mk op _ _ _ kids => (!(decide (op = [118, 97, 114]) || decide (op = [105, 115])) || kids.isEmpty) && kids.attach.all fun k => bareN k.1
termination_by szN x
decreasing_by
  all_goals
    simp_wf
    have := szL_mem k.2
    rw [szN]
    omega
theorem bareN_mk (op name : List Nat) (n at_ : Int) (kids : List Nd) : bareN (.mk op name n at_ kids) = ((!(decide (op = [118, 97, 114]) || decide (op = [105, 115])) || kids.isEmpty) && kids.all bareN) := by
 rw [bareN, attach_all kids bareN]
theorem len0 {l : List Nd} (h : ((l.length : Nat) : Int) = 0) : l = [] := List.length_eq_zero_iff.1 (by omega)
theorem termN_bare (x : Nd) : termN x = true → bareN x = true := by
 refine nd_rec (M := fun x => termN x = true → bareN x = true) (fun op name n a kids ih h => ?_) x
 rw [bareN_mk]
 rw [J7] at h
 have hall : (∀ k ∈ kids, termN k = true) → kids.all bareN = true := fun h => List.all_eq_true.2 fun k hk => ih k hk (h k hk)
 split at h
 ·simp only [Bool.and_eq_true, decide_eq_true_eq] at h
  rw [len0 h.2.2]; simp
 ·rename_i hv
  have e1 : decide (op = [118, 97, 114]) = false := decide_eq_false hv
  split at h
  ·simp only [Bool.and_eq_true, decide_eq_true_eq] at h
   rw [len0 h.2.2.2]; simp
  ·split at h
   ·rename_i hp
    subst hp
    simp only [Bool.and_eq_true, decide_eq_true_eq, List.all_eq_true] at h
    rw [hall fun k hk => (h.2.2.2.2 k hk).2]; rfl
   ·split at h
    ·rename_i hp
     subst hp
     simp only [Bool.and_eq_true, decide_eq_true_eq, List.all_eq_true, partB] at h
     rw [hall fun k hk => (h.2.2.2 k hk).1]; rfl
    ·split at h
     ·rename_i hp
      simp only [Bool.and_eq_true, List.all_eq_true] at h
      rw [hall h.2.1, e1]
      have : decide (op = [105, 115]) = false := decide_eq_false fun e => by subst e; exact absurd hp (by decide)
      rw [this]; rfl
     ·cases h
theorem bare0 {nm : List Nat} {n m : Int} {kids : List Nd} (h : bareB nm n kids m = true) : ((kids.length : Nat) : Int) = m := by
 simp only [bareB, Bool.and_eq_true, decide_eq_true_eq] at h
 exact h.2.2
theorem formN_bare (x : Nd) : formN x = true → bareN x = true := by
 refine nd_rec (M := fun x => formN x = true → bareN x = true) (fun op name n a kids ih h => ?_) x
 rw [bareN_mk]
 rw [Uh] at h
 have hall : (∀ k ∈ kids, formN k = true) → kids.all bareN = true := fun h => List.all_eq_true.2 fun k hk => ih k hk (h k hk)
 have hallT : (∀ k ∈ kids, termN k = true) → kids.all bareN = true := fun h => List.all_eq_true.2 fun k hk => termN_bare k (h k hk)
 have no : ∀ ls : List (List Nat), oneOf op ls = true → ls.contains [118, 97, 114] = false → ls.contains [105, 115] = false → (decide (op = [118, 97, 114]) || decide (op = [105, 115])) = false := by
  intro ls h h1 h2
  rw [oneOf, List.any_eq_true] at h
  obtain ⟨y, hy, e⟩ := h
  have e := of_decide_eq_true e
  subst e
  rw [Bool.or_eq_false_iff]
  refine ⟨decide_eq_false fun e => ?_, decide_eq_false fun e => ?_⟩
  ·subst e; rw [List.contains_eq_mem, decide_eq_false_iff_not] at h1; exact h1 hy
  ·subst e; rw [List.contains_eq_mem, decide_eq_false_iff_not] at h2; exact h2 hy
 split at h
 ·rw [len0 (bare0 h)]; simp
 ·split at h
  ·rename_i hp
   subst hp
   simp only [Bool.and_eq_true, List.all_eq_true] at h
   rw [hall h.2]; rfl
  ·split at h
   ·rename_i hp
    simp only [Bool.and_eq_true, List.all_eq_true] at h
    rw [hall h.2, no _ hp rfl rfl]; rfl
   ·split at h
    ·rename_i hp
     simp only [Bool.and_eq_true, List.all_eq_true] at h
     rw [hall h.2.2.2.2, no _ hp rfl rfl]; rfl
    ·split at h
     ·simp only [Bool.and_eq_true, decide_eq_true_eq] at h
      rw [len0 h.2.2]; simp
     ·split at h
      ·rename_i hp
       simp only [Bool.and_eq_true, List.all_eq_true] at h
       rw [hallT h.2, no _ hp rfl rfl]; rfl
      ·split at h
       ·rename_i hp
        subst hp
        simp only [Bool.and_eq_true, List.all_eq_true] at h
        rw [hallT h.2.2.2]; rfl
       ·cases h
theorem mem_inB {s : List Nat} {l : List (List Nat)} : inB s l = true ↔ s ∈ l := by
 rw [inB, List.any_eq_true]
 constructor
 ·rintro ⟨x, hx, e⟩
  have e := of_decide_eq_true e
  subst e; exact hx
 ·exact fun h => ⟨s, h, decide_eq_true rfl⟩
theorem mem_namesL {z : List Nat} {b : List (List Nat)} : ∀ {l : List Nd}, z ∈ namesL l b ↔ ∃ k ∈ l, z ∈ namesN k b := by
 intro l
 induction l with
 | nil => simp [namesL]
 | cons k l ih =>
  rw [namesL, List.mem_append, ih]
  simp
theorem mem_namesN (x : Nd) : ∀ (b : List (List Nat)) (z : List Nat), z ∈ namesN x b ↔ z ∈ namesN x [] ∧ ¬ z ∈ b := by
 refine nd_rec (M := fun x => ∀ (b : List (List Nat)) (z : List Nat), z ∈ namesN x b ↔ z ∈ namesN x [] ∧ ¬ z ∈ b) (fun op name n a kids ih b z => ?_) x
 have hkids : ∀ c z, z ∈ namesL kids c ↔ z ∈ namesL kids [] ∧ ¬ z ∈ c := fun c z => by
  rw [mem_namesL, mem_namesL]
  constructor
  ·rintro ⟨k, hk, h⟩
   have := (ih k hk c z).1 h
   exact ⟨⟨k, hk, this.1⟩, this.2⟩
  ·rintro ⟨⟨k, hk, h⟩, h2⟩
   exact ⟨k, hk, (ih k hk c z).2 ⟨h, h2⟩⟩
 rw [namesN, namesN]
 split
 ·by_cases hb : inB name b = true
  ·rw [if_pos hb, if_neg (by simp [inB])]
   rw [mem_inB] at hb
   constructor
   ·intro h; cases h
   ·rintro ⟨h1, h2⟩
    rw [List.mem_singleton] at h1
    subst h1; exact absurd hb h2
  ·rw [if_neg hb, if_neg (by simp [inB])]
   rw [mem_inB] at hb
   constructor
   ·intro h
    refine ⟨h, ?_⟩
    rw [List.mem_singleton] at h
    subst h; exact hb
   ·exact fun h => h.1
 ·split
  ·rw [hkids (b ++ [name]), hkids ([] ++ [name])]
   simp only [List.mem_append, List.nil_append]
   constructor
   ·rintro ⟨h1, h2⟩; exact ⟨⟨h1, fun h => h2 (.inr h)⟩, fun h => h2 (.inl h)⟩
   ·rintro ⟨⟨h1, h2⟩, h3⟩; exact ⟨h1, fun h => h.elim h3 h2⟩
  ·exact hkids b z
theorem mem_insAll {z : List Nat} : ∀ {l acc : List (List Nat)}, z ∈ insAll acc l ↔ z ∈ acc ∨ z ∈ l := by
 intro l
 induction l with
 | nil => intro acc; simp [insAll]
 | cons x l ih =>
  intro acc
  show z ∈ insAll (insN x acc) l ↔ _
  rw [ih, mem_insN, List.mem_cons]
  constructor
  ·rintro ((h | h) | h)
   ·exact .inr (.inl h)
   ·exact .inl h
   ·exact .inr (.inr h)
  ·rintro (h | h | h)
   ·exact .inl (.inr h)
   ·exact .inl (.inl h)
   ·exact .inr h
theorem rising_insAll : ∀ {l acc : List (List Nat)}, Rising acc → Rising (insAll acc l) := by
 intro l
 induction l with
 | nil => intro acc h; exact h
 | cons x l ih => intro acc h; exact ih (rising_insN x h)
theorem mem_refL {b : Option (List Nat)} {z : List Nat} : ∀ {l : List Nd} {acc : List (List Nat)}, z ∈ refL l b acc ↔ z ∈ acc ∨ ∃ k ∈ l, z ∈ refN k ∧ ¬ b = some z := by
 intro l
 induction l with
 | nil => intro acc; simp [refL]
 | cons k l ih =>
  intro acc
  rw [refL, ih, mem_insAll]
  simp only [List.mem_filter, List.mem_cons, exists_eq_or_imp]
  constructor
  ·rintro ((h | ⟨h1, h2⟩) | h)
   ·exact .inl h
   ·exact .inr (.inl ⟨h1, by simpa using h2⟩)
   ·exact .inr (.inr h)
  ·rintro (h | ⟨h1, h2⟩ | h)
   ·exact .inl (.inl h)
   ·exact .inl (.inr ⟨h1, by simpa using h2⟩)
   ·exact .inr h
theorem mem_refN (x : Nd) : bareN x = true → ∀ z, z ∈ refN x ↔ z ∈ namesN x [] := by
 refine nd_rec (M := fun x => bareN x = true → ∀ z, z ∈ refN x ↔ z ∈ namesN x []) (fun op name n a kids ih hb z => ?_) x
 rw [bareN_mk, Bool.and_eq_true] at hb
 obtain ⟨hb1, hb2⟩ := hb
 have ih : ∀ k ∈ kids, ∀ z, z ∈ refN k ↔ z ∈ namesN k [] := fun k hk => ih k hk (List.all_eq_true.1 hb2 k hk)
 rw [refN, mem_refL, namesN]
 by_cases hv : op = [118, 97, 114] ∨ op = [105, 115]
 ·have hk : kids = [] := by
   have : (decide (op = [118, 97, 114]) || decide (op = [105, 115])) = true := by simpa using hv
   rw [this] at hb1
   simpa using hb1
  subst hk
  rw [if_pos hv, if_pos hv]
  simp [inB]
 ·rw [if_neg hv, if_neg hv]
  by_cases hq : op = [101, 120] ∨ op = [97, 108, 108]
  ·rw [if_pos hq, if_pos hq, mem_namesL]
   constructor
   ·rintro (h | ⟨k, hk, h1, h2⟩)
    ·cases h
    ·exact ⟨k, hk, (mem_namesN k _ z).2 ⟨(ih k hk z).1 h1, fun h => h2 (by simp at h; rw [h])⟩⟩
   ·rintro ⟨k, hk, h⟩
    obtain ⟨h1, h2⟩ := (mem_namesN k _ z).1 h
    exact .inr ⟨k, hk, (ih k hk z).2 h1, fun e => h2 (by injection e with e; simp [e])⟩
  ·rw [if_neg hq, if_neg hq, mem_namesL]
   constructor
   ·rintro (h | ⟨k, hk, h1, h2⟩)
    ·cases h
    ·exact ⟨k, hk, (ih k hk z).1 h1⟩
   ·rintro ⟨k, hk, h⟩
    exact .inr ⟨k, hk, (ih k hk z).2 h, fun e => nomatch e⟩
end Go.Proofs.YtmjnbdkjekdkgaaDoor
