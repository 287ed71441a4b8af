/-
  slices.Sort, slices.Compact at numbers and strconv.AppendInt, by the library's contracts: the numbers of this program put in.
-/
import Derived.Test.YtiknomepbklibaaGreatDoorProg
import Derived.Shelf.Sort.Plain
import Derived.Shelf.Slices.CompactI
import Derived.Shelf.Slices.In.SortNone
import Derived.Shelf.Strconv.AppendIntPublic10
import Derived.Lib.SlicesCompact
import Derived.Lib.ItoaNum
import Derived.Test.YtiknomepbklibaaGreatDoorZoKit
section
namespace Go.Proofs.YtiknomepbklibaaGreatDoor
open Go Go.RowKit Go.Shelf
set_option linter.unusedVariables false

def renI : Ren := ⟨
 fun n => if n = 125 then 90 else if n = 128 then 122 else if n = 129 then 123 else if n = 189 then 66 else if n = 215 then 149 else if n = 216 then 119 else if n = 257 then 89 else if n = 294 then 113 else if n = 295 then 114 else if n = 296 then 115 else if n = 297 then 116 else if n = 298 then 117 else if n = 299 then 118 else if n = 300 then 120 else if n = 301 then 121 else if n = 328 then 144 else if n = 329 then 145 else if n = 330 then 146 else if n = 331 then 147 else if n = 332 then 148 else if n = 343 then 173 else 0,
 fun n => if n = 0 then 0 else if n = 3 then 3 else if n = 4 then 4 else if n = 5 then 5 else if n = 9 then 9 else if n = 28 then 54 else if n = 46 then 58 else if n = 51 then 154 else if n = 53 then 156 else if n = 131 then 59 else if n = 182 then 146 else if n = 183 then 147 else if n = 218 then 185 else if n = 222 then 189 else if n = 228 then 204 else if n = 229 then 205 else 0,
 fun _ => 0⟩

set_option maxRecDepth 100000 in
theorem lays189 : Lays.n189 Tryz.prog renI := {
 mixed := by kernel_rfl
 f125 := by kernel_rfl
 f128 := by kernel_rfl
 f129 := by kernel_rfl
 f189 := by kernel_rfl
 f215 := by kernel_rfl
 f216 := by kernel_rfl
 f257 := by kernel_rfl
 f294 := by kernel_rfl
 f295 := by kernel_rfl
 f296 := by kernel_rfl
 f297 := by kernel_rfl
 f298 := by kernel_rfl
 f299 := by kernel_rfl
 f300 := by kernel_rfl
 f301 := by kernel_rfl
 f328 := by kernel_rfl
 f329 := by kernel_rfl
 f330 := by kernel_rfl
 f331 := by kernel_rfl
 f332 := by kernel_rfl
 f343 := by kernel_rfl
 t0 := by kernel_rfl
 a0 := fun _ => by kernel_rfl
 z0 := fun _ => by kernel_rfl
 v0 := fun _ => by kernel_rfl
 t3 := by kernel_rfl
 a3 := fun _ => by kernel_rfl
 z3 := fun _ => by kernel_rfl
 v3 := fun _ => by kernel_rfl
 t4 := by kernel_rfl
 a4 := fun _ => by kernel_rfl
 z4 := fun _ => by kernel_rfl
 v4 := fun _ => by kernel_rfl
 t5 := by kernel_rfl
 a5 := fun _ => by kernel_rfl
 z5 := fun _ => by kernel_rfl
 v5 := fun _ => by kernel_rfl
 t9 := by kernel_rfl
 a9 := fun _ => by kernel_rfl
 z9 := fun _ => by kernel_rfl
 v9 := fun _ => by kernel_rfl
 t28 := by kernel_rfl
 a28 := fun _ => by kernel_rfl
 z28 := fun _ => by kernel_rfl
 v28 := fun _ => by kernel_rfl
 t46 := by kernel_rfl
 a46 := fun _ => by kernel_rfl
 z46 := fun _ => by kernel_rfl
 v46 := fun _ => by kernel_rfl
 t51 := by kernel_rfl
 a51 := fun _ => by kernel_rfl
 z51 := fun _ => by kernel_rfl
 v51 := fun _ => by kernel_rfl
 t53 := by kernel_rfl
 a53 := fun _ => by kernel_rfl
 z53 := fun _ => by kernel_rfl
 v53 := fun _ => by kernel_rfl
 t131 := by kernel_rfl
 a131 := fun _ => by kernel_rfl
 z131 := fun _ => by kernel_rfl
 v131 := fun _ => by kernel_rfl
 t182 := by kernel_rfl
 a182 := fun _ => by kernel_rfl
 z182 := fun _ => by kernel_rfl
 v182 := fun _ => by kernel_rfl
 t183 := by kernel_rfl
 a183 := fun _ => by kernel_rfl
 z183 := fun _ => by kernel_rfl
 v183 := fun _ => by kernel_rfl
 t218 := by kernel_rfl
 a218 := fun _ => by kernel_rfl
 z218 := fun _ => by kernel_rfl
 v218 := fun _ => by kernel_rfl
 t222 := by kernel_rfl
 a222 := fun _ => by kernel_rfl
 z222 := fun _ => by kernel_rfl
 v222 := fun _ => by kernel_rfl
 t228 := by kernel_rfl
 a228 := fun _ => by kernel_rfl
 z228 := fun _ => by kernel_rfl
 v228 := fun _ => by kernel_rfl
 t229 := by kernel_rfl
 a229 := fun _ => by kernel_rfl
 z229 := fun _ => by kernel_rfl
 v229 := fun _ => by kernel_rfl }
def renC : Ren := ⟨
 fun n => if n = 20 then 67 else 0,
 fun n => if n = 0 then 0 else if n = 3 then 3 else if n = 4 then 4 else if n = 22 then 54 else 0,
 fun _ => 0⟩

set_option maxRecDepth 100000 in
theorem lays20 : Lays2.n20 Tryz.prog renC := {
 mixed := by kernel_rfl
 f20 := by kernel_rfl
 t0 := by kernel_rfl
 a0 := fun _ => by kernel_rfl
 z0 := fun _ => by kernel_rfl
 v0 := fun _ => by kernel_rfl
 t3 := by kernel_rfl
 a3 := fun _ => by kernel_rfl
 z3 := fun _ => by kernel_rfl
 v3 := fun _ => by kernel_rfl
 t4 := by kernel_rfl
 a4 := fun _ => by kernel_rfl
 z4 := fun _ => by kernel_rfl
 v4 := fun _ => by kernel_rfl
 t22 := by kernel_rfl
 a22 := fun _ => by kernel_rfl
 z22 := fun _ => by kernel_rfl
 v22 := fun _ => by kernel_rfl
 i3 := by kernel_rfl }
def renA : Ren := ⟨
 fun n => if n = 129 then 123 else if n = 176 then 112 else if n = 249 then 143 else if n = 283 then 180 else if n = 284 then 181 else if n = 285 then 182 else if n = 286 then 183 else if n = 288 then 172 else if n = 317 then 187 else if n = 318 then 188 else if n = 319 then 189 else if n = 320 then 190 else if n = 337 then 193 else if n = 338 then 194 else 0,
 fun n => if n = 0 then 0 else if n = 2 then 2 else if n = 3 then 3 else if n = 4 then 4 else if n = 5 then 5 else if n = 9 then 9 else if n = 20 then 20 else if n = 37 then 143 else if n = 46 then 58 else if n = 51 then 154 else if n = 53 then 156 else if n = 171 then 213 else if n = 173 then 215 else if n = 212 then 218 else if n = 213 then 219 else if n = 232 then 221 else if n = 233 then 222 else 0,
 fun n => if n = 17 then 0 else if n = 18 then 1 else if n = 19 then 2 else 0⟩

set_option maxRecDepth 100000 in
theorem lays176 : Lays.n176 Tryz.prog renA := {
 mixed := by kernel_rfl
 f129 := by kernel_rfl
 f176 := by kernel_rfl
 f249 := by kernel_rfl
 f283 := by kernel_rfl
 f284 := by kernel_rfl
 f285 := by kernel_rfl
 f286 := by kernel_rfl
 f288 := by kernel_rfl
 f317 := by kernel_rfl
 f318 := by kernel_rfl
 f319 := by kernel_rfl
 f320 := by kernel_rfl
 f337 := by kernel_rfl
 f338 := by kernel_rfl
 t0 := by kernel_rfl
 a0 := fun _ => by kernel_rfl
 z0 := fun _ => by kernel_rfl
 v0 := fun _ => by kernel_rfl
 t2 := by kernel_rfl
 a2 := fun _ => by kernel_rfl
 z2 := fun _ => by kernel_rfl
 v2 := fun _ => by kernel_rfl
 t3 := by kernel_rfl
 a3 := fun _ => by kernel_rfl
 z3 := fun _ => by kernel_rfl
 v3 := fun _ => by kernel_rfl
 t4 := by kernel_rfl
 a4 := fun _ => by kernel_rfl
 z4 := fun _ => by kernel_rfl
 v4 := fun _ => by kernel_rfl
 t5 := by kernel_rfl
 a5 := fun _ => by kernel_rfl
 z5 := fun _ => by kernel_rfl
 v5 := fun _ => by kernel_rfl
 t9 := by kernel_rfl
 a9 := fun _ => by kernel_rfl
 z9 := fun _ => by kernel_rfl
 v9 := fun _ => by kernel_rfl
 t20 := by kernel_rfl
 a20 := fun _ => by kernel_rfl
 z20 := fun _ => by kernel_rfl
 v20 := fun _ => by kernel_rfl
 t37 := by kernel_rfl
 a37 := fun _ => by kernel_rfl
 z37 := fun _ => by kernel_rfl
 v37 := fun _ => by kernel_rfl
 t46 := by kernel_rfl
 a46 := fun _ => by kernel_rfl
 z46 := fun _ => by kernel_rfl
 v46 := fun _ => by kernel_rfl
 t51 := by kernel_rfl
 a51 := fun _ => by kernel_rfl
 z51 := fun _ => by kernel_rfl
 v51 := fun _ => by kernel_rfl
 t53 := by kernel_rfl
 a53 := fun _ => by kernel_rfl
 z53 := fun _ => by kernel_rfl
 v53 := fun _ => by kernel_rfl
 t171 := by kernel_rfl
 a171 := fun _ => by kernel_rfl
 z171 := fun _ => by kernel_rfl
 v171 := fun _ => by kernel_rfl
 t173 := by kernel_rfl
 a173 := fun _ => by kernel_rfl
 z173 := fun _ => by kernel_rfl
 v173 := fun _ => by kernel_rfl
 t212 := by kernel_rfl
 a212 := fun _ => by kernel_rfl
 z212 := fun _ => by kernel_rfl
 v212 := fun _ => by kernel_rfl
 t213 := by kernel_rfl
 a213 := fun _ => by kernel_rfl
 z213 := fun _ => by kernel_rfl
 t232 := by kernel_rfl
 a232 := fun _ => by kernel_rfl
 z232 := fun _ => by kernel_rfl
 v232 := fun _ => by kernel_rfl
 t233 := by kernel_rfl
 a233 := fun _ => by kernel_rfl
 z233 := fun _ => by kernel_rfl
 v233 := fun _ => by kernel_rfl
 g17 := by kernel_rfl
 g18 := by kernel_rfl
 g19 := by kernel_rfl }
set_option maxRecDepth 100000 in
theorem laysM176 : LaysM.n176 Tryz.prog renA := {
 ton176 := lays176
 i0 := by kernel_rfl
 i2 := by kernel_rfl
 i3 := by kernel_rfl
 i4 := by kernel_rfl
 i5 := by kernel_rfl
 i9 := by kernel_rfl
 i20 := by kernel_rfl
 i37 := by kernel_rfl
 i46 := by kernel_rfl
 i51 := by kernel_rfl
 i53 := by kernel_rfl
 i171 := by kernel_rfl
 i173 := by kernel_rfl
 i212 := by kernel_rfl
 i232 := by kernel_rfl
 i233 := by kernel_rfl
 m17 := by kernel_rfl
 m18 := by kernel_rfl
 m19 := by kernel_rfl }
end Go.Proofs.YtiknomepbklibaaGreatDoor
end
section
namespace Go.Proofs.YtiknomepbklibaaGreatDoor
open Go
set_option linter.unusedVariables false

/-! Numbers in order. -/
def RiseZ (l : List Int) : Prop := l.Pairwise (· < ·)
def insZ (x : Int) : List Int → List Int
 | [] => [x]
 | y :: l => if y < x then y :: insZ x l else if y = x then y :: l else x :: y :: l
def sortedZ (l : List Int) : List Int := l.foldl (fun out x => insZ x out) []
theorem riseZ_eq : ∀ {a b : List Int}, RiseZ a → RiseZ b → (∀ x, x ∈ a ↔ x ∈ b) → a = b := by
 intro a
 induction a with
 | nil =>
  intro b _ _ h
  cases b with
  | nil => rfl
  | cons y b => exact absurd ((h y).2 (List.mem_cons_self ..)) (by simp)
 | cons x a ih =>
  intro b ha hb h
  cases b with
  | nil => exact absurd ((h x).1 (List.mem_cons_self ..)) (by simp)
  | cons y b =>
   obtain ⟨ha1, ha2⟩ := List.pairwise_cons.1 ha
   obtain ⟨hb1, hb2⟩ := List.pairwise_cons.1 hb
   have hxy : x = y := by
    rcases List.mem_cons.1 ((h x).1 (List.mem_cons_self ..)) with e | e
    ·exact e
    ·rcases List.mem_cons.1 ((h y).2 (List.mem_cons_self ..)) with e' | e'
     ·exact e'.symm
     ·have := hb1 _ e; have := ha1 _ e'; omega
   subst hxy
   congr 1
   refine ih ha2 hb2 fun z => ⟨fun hz => ?_, fun hz => ?_⟩
   ·rcases List.mem_cons.1 ((h z).1 (List.mem_cons_of_mem _ hz)) with e | e
    ·have := ha1 _ hz; omega
    ·exact e
   ·rcases List.mem_cons.1 ((h z).2 (List.mem_cons_of_mem _ hz)) with e | e
    ·have := hb1 _ hz; omega
    ·exact e
theorem mem_insZ (x z : Int) (l : List Int) : z ∈ insZ x l ↔ z = x ∨ z ∈ l := by
 induction l with
 | nil => simp [insZ]
 | cons y l ih =>
  rw [insZ]
  split
  ·rw [List.mem_cons, ih, List.mem_cons]
   constructor
   ·rintro (h | h | h)
    ·exact .inr (.inl h)
    ·exact .inl h
    ·exact .inr (.inr h)
   ·rintro (h | h | h)
    ·exact .inr (.inl h)
    ·exact .inl h
    ·exact .inr (.inr h)
  ·split
   ·rename_i h; subst h; simp
   ·simp
theorem rise_insZ (x : Int) {l : List Int} (h : RiseZ l) : RiseZ (insZ x l) := by
 induction l with
 | nil => exact List.pairwise_singleton _ _
 | cons y l ih =>
  obtain ⟨h1, h2⟩ := List.pairwise_cons.1 h
  rw [insZ]
  split
  ·rename_i hlt
   refine List.pairwise_cons.2 ⟨fun z hz => ?_, ih h2⟩
   rcases (mem_insZ x z l).1 hz with e | e
   ·omega
   ·exact h1 z e
  ·split
   ·exact h
   ·rename_i hlt hne
    refine List.pairwise_cons.2 ⟨fun z hz => ?_, h⟩
    rcases List.mem_cons.1 hz with e | e
    ·omega
    ·have := h1 z e; omega
theorem sortedZ_from (l : List Int) : ∀ acc, RiseZ acc → RiseZ (l.foldl (fun out x => insZ x out) acc) ∧ ∀ z, z ∈ l.foldl (fun out x => insZ x out) acc ↔ z ∈ acc ∨ z ∈ l := by
 induction l with
 | nil => intro acc h; exact ⟨h, by simp⟩
 | cons x l ih =>
  intro acc h
  obtain ⟨h1, h2⟩ := ih (insZ x acc) (rise_insZ x h)
  refine ⟨h1, fun z => ?_⟩
  rw [List.foldl_cons, h2, mem_insZ, List.mem_cons]
  constructor
  ·rintro ((h | h) | h)
   ·exact .inr (.inl h)
   ·exact .inl h
   ·exact .inr (.inr h)
  ·rintro (h | h | h)
   ·exact .inl (.inr h)
   ·exact .inl (.inl h)
   ·exact .inr h
theorem rise_sortedZ (l : List Int) : RiseZ (sortedZ l) := (sortedZ_from l [] List.Pairwise.nil).1
theorem mem_sortedZ (l : List Int) (z : Int) : z ∈ sortedZ l ↔ z ∈ l := by
 have := (sortedZ_from l [] List.Pairwise.nil).2 z
 unfold sortedZ
 simpa using this
theorem mem_compactZ {zs : List Int} {x : Int} : x ∈ Lib.compact zs ↔ x ∈ zs := by
 unfold Lib.compact Lib.compactUpTo
 constructor
 ·intro h
  obtain ⟨i, hi, rfl⟩ := List.mem_map.1 h
  have hi' : i < zs.length := List.mem_range.1 (List.mem_filter.1 hi).1
  simp [getElem!_pos, hi']
 ·intro h
  obtain ⟨i, hi, rfl⟩ := List.getElem_of_mem h
  rw [List.mem_map]
  have : ∀ j (hj : j < zs.length), zs[j] = zs[i] → ∃ a, a ∈ (List.range zs.length).filter (Lib.keeps zs.toArray) ∧ (zs.toArray)[a]! = zs[i] := by
   intro j
   induction j with
   | zero => intro hj e; exact ⟨0, List.mem_filter.2 ⟨List.mem_range.2 hj, by simp [Lib.keeps]⟩, by simp [getElem!_pos, hj, e]⟩
   | succ j ih =>
    intro hj e
    by_cases h2 : zs[j] = zs[j + 1]
    ·exact ih (by omega) (h2.trans e)
    ·refine ⟨j + 1, List.mem_filter.2 ⟨List.mem_range.2 hj, ?_⟩, by simp [getElem!_pos, hj, e]⟩
     apply Lib.keeps_pos
     have : j < zs.length := by omega
     simp [getElem!_pos, hj, this]
     exact fun e => h2 e.symm
  exact this i hi rfl
theorem compactZ_rise {zs : List Int} (h : zs.Pairwise (· ≤ ·)) : RiseZ (Lib.compact zs) := by
 unfold RiseZ Lib.compact Lib.compactUpTo
 rw [List.pairwise_map]
 refine List.Pairwise.imp_of_mem ?_ (List.Pairwise.filter _ List.pairwise_lt_range)
 intro i j hi hj hij
 have hj1 := List.mem_filter.1 hj
 have hjl : j < zs.length := List.mem_range.1 hj1.1
 have hk := hj1.2
 have hil : i < zs.length := by omega
 have hj1l : j - 1 < zs.length := by omega
 simp only [Lib.keeps, decide_eq_true_eq] at hk
 rcases hk with hk | hk
 ·omega
 ·have e1 : zs.toArray[j]! = zs[j] := by simp [getElem!_pos, hjl]
  have e2 : zs.toArray[j - 1]! = zs[j - 1] := by simp [getElem!_pos, hj1l]
  have e3 : zs.toArray[i]! = zs[i] := by simp [getElem!_pos, hil]
  rw [e1, e2] at hk
  rw [e3, e1]
  have hle : zs[j - 1] ≤ zs[j] := List.pairwise_iff_getElem.1 h _ _ _ _ (by omega)
  by_cases hij' : i = j - 1
  ·subst hij'; omega
  ·have : zs[i] ≤ zs[j - 1] := List.pairwise_iff_getElem.1 h _ _ _ _ (by omega)
   omega
def orderZ (zs : List Int) : List Int := zs.mergeSort fun x y => decide (x ≤ y)
theorem orderZ_sorted (zs : List Int) : (orderZ zs).Pairwise (· ≤ ·) := by
 have := List.pairwise_mergeSort (le := fun x y : Int => decide (x ≤ y)) (fun a b c h1 h2 => by simp at *; omega) (fun a b => by simp; omega) zs
 exact this.imp fun h => by simpa using h
/-- Sorted and each once, whichever way. -/
theorem setZ_eq (zs : List Int) : Lib.compact (orderZ zs) = sortedZ zs :=
  riseZ_eq (compactZ_rise (orderZ_sorted zs)) (rise_sortedZ zs) fun x => by rw [mem_compactZ, mem_sortedZ]; exact List.mem_mergeSort

/-! Rows of numbers as texts. -/
def itoaN (n : Int) : List Nat := (Lib.itoa n).map UInt8.toNat
def keyN : List Int → List Nat
 | [] => []
 | n :: l => itoaN n ++ 44 :: keyN l
def valD (l : List UInt8) : Nat := l.foldl (fun a c => 10 * a + (c.toNat - 48)) 0
theorem dig_nat (u : Nat) (h : u < 10) : (UInt8.ofNat (48 + u)).toNat = 48 + u := by
 rw [UInt8.toNat_ofNat']; omega
theorem valD_dec (u : Nat) : valD (Lib.decDigits u) = u := by
 induction u using Nat.strongRecOn with
 | _ u ih =>
  rw [Lib.decDigits]
  by_cases h : u < 10
  ·rw [dif_pos h]
   unfold valD
   rw [List.foldl_cons, List.foldl_nil, dig_nat u h]; omega
  ·rw [dif_neg h]
   unfold valD
   rw [List.foldl_append, List.foldl_cons, List.foldl_nil, dig_nat _ (Nat.mod_lt _ (by decide))]
   have := ih (u / 10) (by omega)
   unfold valD at this
   rw [this]; omega
theorem dec_range (u : Nat) : ∀ c ∈ Lib.decDigits u, 48 ≤ c.toNat ∧ c.toNat ≤ 57 := by
 induction u using Nat.strongRecOn with
 | _ u ih =>
  intro c hc
  rw [Lib.decDigits] at hc
  by_cases h : u < 10
  ·rw [dif_pos h] at hc
   rw [List.mem_singleton.1 hc, dig_nat u h]; omega
  ·rw [dif_neg h] at hc
   rcases List.mem_append.1 hc with hc | hc
   ·exact ih (u / 10) (by omega) c hc
   ·have := Nat.mod_lt u (show 0 < 10 by decide)
    rw [List.mem_singleton.1 hc, dig_nat _ this]; omega
theorem dec_inj {a b : Nat} (h : Lib.decDigits a = Lib.decDigits b) : a = b := by rw [← valD_dec a, h, valD_dec]
theorem itoa_inj {a b : Int} (h : Lib.itoa a = Lib.itoa b) : a = b := by
 unfold Lib.itoa at h
 split at h <;> split at h
 ·injection h with _ h
  have := dec_inj h; omega
 ·have : (45 : UInt8) ∈ Lib.decDigits b.toNat := by rw [← h]; exact List.mem_cons_self ..
  exact absurd (dec_range _ _ this).1 (by decide)
 ·have : (45 : UInt8) ∈ Lib.decDigits a.toNat := by rw [h]; exact List.mem_cons_self ..
  exact absurd (dec_range _ _ this).1 (by decide)
 ·have := dec_inj h; omega
theorem toNat_map_inj : ∀ {a b : List UInt8}, a.map UInt8.toNat = b.map UInt8.toNat → a = b
 | [], [], _ => rfl
 | [], _ :: _, h => by cases h
 | _ :: _, [], h => by cases h
 | x :: a, y :: b, h => by
  injection h with h1 h2
  rw [UInt8.toNat_inj.1 h1, toNat_map_inj h2]
theorem itoaN_inj {a b : Int} (h : itoaN a = itoaN b) : a = b := itoa_inj (toNat_map_inj h)
theorem itoaN_no (n : Int) : 44 ∉ itoaN n := by
 intro h
 obtain ⟨c, hc, e⟩ := List.mem_map.1 h
 unfold Lib.itoa at hc
 split at hc
 ·rcases List.mem_cons.1 hc with rfl | hc
  ·exact absurd e (by decide)
  ·have := dec_range _ _ hc; omega
 ·have := dec_range _ _ hc; omega
theorem split_at {a b : List Nat} {r s : List Nat} (ha : 44 ∉ a) (hb : 44 ∉ b) (h : a ++ 44 :: r = b ++ 44 :: s) : a = b ∧ r = s := by
 induction a generalizing b with
 | nil =>
  cases b with
  | nil => injection h with _ h; exact ⟨rfl, h⟩
  | cons y b => injection h with h1 _; exact absurd (h1 ▸ List.mem_cons_self ..) hb
 | cons x a ih =>
  cases b with
  | nil => injection h with h1 _; exact absurd (h1 ▸ List.mem_cons_self ..) ha
  | cons y b =>
   injection h with h1 h2
   obtain ⟨e1, e2⟩ := ih (fun h => ha (List.mem_cons_of_mem _ h)) (fun h => hb (List.mem_cons_of_mem _ h)) h2
   exact ⟨by rw [h1, e1], e2⟩
theorem keyN_inj : ∀ {a b : List Int}, keyN a = keyN b → a = b
 | [], [], _ => rfl
 | [], m :: b, h => by rw [keyN, keyN] at h; have := congrArg List.length h; simp at this
 | n :: a, [], h => by rw [keyN, keyN] at h; have := congrArg List.length h; simp at this
 | n :: a, m :: b, h => by
  rw [keyN, keyN] at h
  obtain ⟨h1, h2⟩ := split_at (itoaN_no n) (itoaN_no m) h
  rw [itoaN_inj h1, keyN_inj h2]
theorem itoaN_bytes (n : Int) : ∀ x ∈ itoaN n, x < 256 := by
 intro x h
 obtain ⟨c, _, rfl⟩ := List.mem_map.1 h
 exact c.toNat_lt
theorem keyN_bytes : ∀ l : List Int, ∀ x ∈ keyN l, x < 256
 | [], x, h => by cases h
 | n :: l, x, h => by
  rw [keyN] at h
  rcases List.mem_append.1 h with h | h
  ·exact itoaN_bytes n x h
  ·rcases List.mem_cons.1 h with rfl | h
   ·decide
   ·exact keyN_bytes l x h

/-! Sets by number. -/
end Go.Proofs.YtiknomepbklibaaGreatDoor
end
