/-
  Numbers in order, each once; rows of numbers as texts. No program in this text.
-/
import Derived.Lib.SlicesCompact
import Derived.Lib.ItoaNum
import Derived.Test.YtiknomepbklibaaDoorNwKit
namespace Go.Proofs.YtiknomepbklibaaDoor
open Go
set_option linter.unusedVariables false

/-! Numbers in order. -/
def RiseZ (l : List Int) : Prop := l.Pairwise (· < ·)
def insZ (x : Int) : List Int → List Int
 | [] => [x]
 | y :: l => if y < x then y :: insZ x l else if y = x then y :: l else x :: y :: l
def sortedZ (l : List Int) : List Int := l.foldl (fun out x => insZ x out) []
theorem riseZ_eq : ∀ {a b : List Int}, RiseZ a → RiseZ b → (∀ x, x ∈ a ↔ x ∈ b) → a = b := by
 intro a
 induction a with
 | nil =>
  intro b _ _ h
  cases b with
  | nil => rfl
  | cons y b => exact absurd ((h y).2 (List.mem_cons_self ..)) (by simp)
 | cons x a ih =>
  intro b ha hb h
  cases b with
  | nil => exact absurd ((h x).1 (List.mem_cons_self ..)) (by simp)
  | cons y b =>
   obtain ⟨ha1, ha2⟩ := List.pairwise_cons.1 ha
   obtain ⟨hb1, hb2⟩ := List.pairwise_cons.1 hb
   have hxy : x = y := by
    rcases List.mem_cons.1 ((h x).1 (List.mem_cons_self ..)) with e | e
    ·exact e
    ·rcases List.mem_cons.1 ((h y).2 (List.mem_cons_self ..)) with e' | e'
     ·exact e'.symm
     ·have := hb1 _ e; have := ha1 _ e'; omega
   subst hxy
   congr 1
   refine ih ha2 hb2 fun z => ⟨fun hz => ?_, fun hz => ?_⟩
   ·rcases List.mem_cons.1 ((h z).1 (List.mem_cons_of_mem _ hz)) with e | e
    ·have := ha1 _ hz; omega
    ·exact e
   ·rcases List.mem_cons.1 ((h z).2 (List.mem_cons_of_mem _ hz)) with e | e
    ·have := hb1 _ hz; omega
    ·exact e
theorem mem_insZ (x z : Int) (l : List Int) : z ∈ insZ x l ↔ z = x ∨ z ∈ l := by
 induction l with
 | nil => simp [insZ]
 | cons y l ih =>
  rw [insZ]
  split
  ·rw [List.mem_cons, ih, List.mem_cons]
   constructor
   ·rintro (h | h | h)
    ·exact .inr (.inl h)
    ·exact .inl h
    ·exact .inr (.inr h)
   ·rintro (h | h | h)
    ·exact .inr (.inl h)
    ·exact .inl h
    ·exact .inr (.inr h)
  ·split
   ·rename_i h; subst h; simp
   ·simp
theorem rise_insZ (x : Int) {l : List Int} (h : RiseZ l) : RiseZ (insZ x l) := by
 induction l with
 | nil => exact List.pairwise_singleton _ _
 | cons y l ih =>
  obtain ⟨h1, h2⟩ := List.pairwise_cons.1 h
  rw [insZ]
  split
  ·rename_i hlt
   refine List.pairwise_cons.2 ⟨fun z hz => ?_, ih h2⟩
   rcases (mem_insZ x z l).1 hz with e | e
   ·omega
   ·exact h1 z e
  ·split
   ·exact h
   ·rename_i hlt hne
    refine List.pairwise_cons.2 ⟨fun z hz => ?_, h⟩
    rcases List.mem_cons.1 hz with e | e
    ·omega
    ·have := h1 z e; omega
theorem sortedZ_from (l : List Int) : ∀ acc, RiseZ acc → RiseZ (l.foldl (fun out x => insZ x out) acc) ∧ ∀ z, z ∈ l.foldl (fun out x => insZ x out) acc ↔ z ∈ acc ∨ z ∈ l := by
 induction l with
 | nil => intro acc h; exact ⟨h, by simp⟩
 | cons x l ih =>
  intro acc h
  obtain ⟨h1, h2⟩ := ih (insZ x acc) (rise_insZ x h)
  refine ⟨h1, fun z => ?_⟩
  rw [List.foldl_cons, h2, mem_insZ, List.mem_cons]
  constructor
  ·rintro ((h | h) | h)
   ·exact .inr (.inl h)
   ·exact .inl h
   ·exact .inr (.inr h)
  ·rintro (h | h | h)
   ·exact .inl (.inr h)
   ·exact .inl (.inl h)
   ·exact .inr h
theorem rise_sortedZ (l : List Int) : RiseZ (sortedZ l) := (sortedZ_from l [] List.Pairwise.nil).1
theorem mem_sortedZ (l : List Int) (z : Int) : z ∈ sortedZ l ↔ z ∈ l := by
 have := (sortedZ_from l [] List.Pairwise.nil).2 z
 unfold sortedZ
 simpa using this
theorem mem_compactZ {zs : List Int} {x : Int} : x ∈ Lib.compact zs ↔ x ∈ zs := by
 unfold Lib.compact Lib.compactUpTo
 constructor
 ·intro h
  obtain ⟨i, hi, rfl⟩ := List.mem_map.1 h
  have hi' : i < zs.length := List.mem_range.1 (List.mem_filter.1 hi).1
  simp [getElem!_pos, hi']
 ·intro h
  obtain ⟨i, hi, rfl⟩ := List.getElem_of_mem h
  rw [List.mem_map]
  have : ∀ j (hj : j < zs.length), zs[j] = zs[i] → ∃ a, a ∈ (List.range zs.length).filter (Lib.keeps zs.toArray) ∧ (zs.toArray)[a]! = zs[i] := by
   intro j
   induction j with
   | zero => intro hj e; exact ⟨0, List.mem_filter.2 ⟨List.mem_range.2 hj, by simp [Lib.keeps]⟩, by simp [getElem!_pos, hj, e]⟩
   | succ j ih =>
    intro hj e
    by_cases h2 : zs[j] = zs[j + 1]
    ·exact ih (by omega) (h2.trans e)
    ·refine ⟨j + 1, List.mem_filter.2 ⟨List.mem_range.2 hj, ?_⟩, by simp [getElem!_pos, hj, e]⟩
     apply Lib.keeps_pos
     have : j < zs.length := by omega
     simp [getElem!_pos, hj, this]
     exact fun e => h2 e.symm
  exact this i hi rfl
theorem compactZ_rise {zs : List Int} (h : zs.Pairwise (· ≤ ·)) : RiseZ (Lib.compact zs) := by
 unfold RiseZ Lib.compact Lib.compactUpTo
 rw [List.pairwise_map]
 refine List.Pairwise.imp_of_mem ?_ (List.Pairwise.filter _ List.pairwise_lt_range)
 intro i j hi hj hij
 have hj1 := List.mem_filter.1 hj
 have hjl : j < zs.length := List.mem_range.1 hj1.1
 have hk := hj1.2
 have hil : i < zs.length := by omega
 have hj1l : j - 1 < zs.length := by omega
 simp only [Lib.keeps, decide_eq_true_eq] at hk
 rcases hk with hk | hk
 ·omega
 ·have e1 : zs.toArray[j]! = zs[j] := by simp [getElem!_pos, hjl]
  have e2 : zs.toArray[j - 1]! = zs[j - 1] := by simp [getElem!_pos, hj1l]
  have e3 : zs.toArray[i]! = zs[i] := by simp [getElem!_pos, hil]
  rw [e1, e2] at hk
  rw [e3, e1]
  have hle : zs[j - 1] ≤ zs[j] := List.pairwise_iff_getElem.1 h _ _ _ _ (by omega)
  by_cases hij' : i = j - 1
  ·subst hij'; omega
  ·have : zs[i] ≤ zs[j - 1] := List.pairwise_iff_getElem.1 h _ _ _ _ (by omega)
   omega
def orderZ (zs : List Int) : List Int := zs.mergeSort fun x y => decide (x ≤ y)
theorem orderZ_sorted (zs : List Int) : (orderZ zs).Pairwise (· ≤ ·) := by
 have := List.pairwise_mergeSort (le := fun x y : Int => decide (x ≤ y)) (fun a b c h1 h2 => by simp at *; omega) (fun a b => by simp; omega) zs
 exact this.imp fun h => by simpa using h
/-- Sorted and each once, whichever way. -/
theorem setZ_eq (zs : List Int) : Lib.compact (orderZ zs) = sortedZ zs :=
  riseZ_eq (compactZ_rise (orderZ_sorted zs)) (rise_sortedZ zs) fun x => by rw [mem_compactZ, mem_sortedZ]; exact List.mem_mergeSort

/-! Rows of numbers as texts. -/
def itoaN (n : Int) : List Nat := (Lib.itoa n).map UInt8.toNat
def keyN : List Int → List Nat
 | [] => []
 | n :: l => itoaN n ++ 44 :: keyN l
def valD (l : List UInt8) : Nat := l.foldl (fun a c => 10 * a + (c.toNat - 48)) 0
theorem dig_nat (u : Nat) (h : u < 10) : (UInt8.ofNat (48 + u)).toNat = 48 + u := by
 rw [UInt8.toNat_ofNat']; omega
theorem valD_dec (u : Nat) : valD (Lib.decDigits u) = u := by
 induction u using Nat.strongRecOn with
 | _ u ih =>
  rw [Lib.decDigits]
  by_cases h : u < 10
  ·rw [dif_pos h]
   unfold valD
   rw [List.foldl_cons, List.foldl_nil, dig_nat u h]; omega
  ·rw [dif_neg h]
   unfold valD
   rw [List.foldl_append, List.foldl_cons, List.foldl_nil, dig_nat _ (Nat.mod_lt _ (by decide))]
   have := ih (u / 10) (by omega)
   unfold valD at this
   rw [this]; omega
theorem dec_range (u : Nat) : ∀ c ∈ Lib.decDigits u, 48 ≤ c.toNat ∧ c.toNat ≤ 57 := by
 induction u using Nat.strongRecOn with
 | _ u ih =>
  intro c hc
  rw [Lib.decDigits] at hc
  by_cases h : u < 10
  ·rw [dif_pos h] at hc
   rw [List.mem_singleton.1 hc, dig_nat u h]; omega
  ·rw [dif_neg h] at hc
   rcases List.mem_append.1 hc with hc | hc
   ·exact ih (u / 10) (by omega) c hc
   ·have := Nat.mod_lt u (show 0 < 10 by decide)
    rw [List.mem_singleton.1 hc, dig_nat _ this]; omega
theorem dec_inj {a b : Nat} (h : Lib.decDigits a = Lib.decDigits b) : a = b := by rw [← valD_dec a, h, valD_dec]
theorem itoa_inj {a b : Int} (h : Lib.itoa a = Lib.itoa b) : a = b := by
 unfold Lib.itoa at h
 split at h <;> split at h
 ·injection h with _ h
  have := dec_inj h; omega
 ·have : (45 : UInt8) ∈ Lib.decDigits b.toNat := by rw [← h]; exact List.mem_cons_self ..
  exact absurd (dec_range _ _ this).1 (by decide)
 ·have : (45 : UInt8) ∈ Lib.decDigits a.toNat := by rw [h]; exact List.mem_cons_self ..
  exact absurd (dec_range _ _ this).1 (by decide)
 ·have := dec_inj h; omega
theorem toNat_map_inj : ∀ {a b : List UInt8}, a.map UInt8.toNat = b.map UInt8.toNat → a = b
 | [], [], _ => rfl
 | [], _ :: _, h => by cases h
 | _ :: _, [], h => by cases h
 | x :: a, y :: b, h => by
  injection h with h1 h2
  rw [UInt8.toNat_inj.1 h1, toNat_map_inj h2]
theorem itoaN_inj {a b : Int} (h : itoaN a = itoaN b) : a = b := itoa_inj (toNat_map_inj h)
theorem itoaN_no (n : Int) : 44 ∉ itoaN n := by
 intro h
 obtain ⟨c, hc, e⟩ := List.mem_map.1 h
 unfold Lib.itoa at hc
 split at hc
 ·rcases List.mem_cons.1 hc with rfl | hc
  ·exact absurd e (by decide)
  ·have := dec_range _ _ hc; omega
 ·have := dec_range _ _ hc; omega
theorem split_at {a b : List Nat} {r s : List Nat} (ha : 44 ∉ a) (hb : 44 ∉ b) (h : a ++ 44 :: r = b ++ 44 :: s) : a = b ∧ r = s := by
 induction a generalizing b with
 | nil =>
  cases b with
  | nil => injection h with _ h; exact ⟨rfl, h⟩
  | cons y b => injection h with h1 _; exact absurd (h1 ▸ List.mem_cons_self ..) hb
 | cons x a ih =>
  cases b with
  | nil => injection h with h1 _; exact absurd (h1 ▸ List.mem_cons_self ..) ha
  | cons y b =>
   injection h with h1 h2
   obtain ⟨e1, e2⟩ := ih (fun h => ha (List.mem_cons_of_mem _ h)) (fun h => hb (List.mem_cons_of_mem _ h)) h2
   exact ⟨by rw [h1, e1], e2⟩
theorem keyN_inj : ∀ {a b : List Int}, keyN a = keyN b → a = b
 | [], [], _ => rfl
 | [], m :: b, h => by rw [keyN, keyN] at h; have := congrArg List.length h; simp at this
 | n :: a, [], h => by rw [keyN, keyN] at h; have := congrArg List.length h; simp at this
 | n :: a, m :: b, h => by
  rw [keyN, keyN] at h
  obtain ⟨h1, h2⟩ := split_at (itoaN_no n) (itoaN_no m) h
  rw [itoaN_inj h1, keyN_inj h2]
theorem itoaN_bytes (n : Int) : ∀ x ∈ itoaN n, x < 256 := by
 intro x h
 obtain ⟨c, _, rfl⟩ := List.mem_map.1 h
 exact c.toNat_lt
theorem keyN_bytes : ∀ l : List Int, ∀ x ∈ keyN l, x < 256
 | [], x, h => by cases h
 | n :: l, x, h => by
  rw [keyN] at h
  rcases List.mem_append.1 h with h | h
  ·exact itoaN_bytes n x h
  ·rcases List.mem_cons.1 h with rfl | h
   ·decide
   ·exact keyN_bytes l x h

/-! Sets by number. -/
end Go.Proofs.YtiknomepbklibaaDoor
