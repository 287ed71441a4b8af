/-
  Laws of terms that are put for names, in plain Lean.
-/
import Derived.Test.YtmjnbdkjekdkgaaDoorFbPud
namespace Go.Proofs.YtmjnbdkjekdkgaaDoor
open Go Go.RowKit
set_option linter.unusedVariables false
set_option linter.unusedSimpArgs false

theorem nameB_len {s : List Nat} (h : nameB s = true) : s.length ≤ 2000 := by
 unfold nameB at h
 rw [Bool.and_eq_true] at h
 have h1 := of_decide_eq_true h.1
 unfold tokens at h1
 split at h1
 ·cases h1
 ·rename_i hs
  rw [Jg] at hs
  omega
theorem okN_small {op name : List Nat} {n a : Int} {kids : List Nd} (h : okN (.mk op name n a kids)) : name.length ≤ 2000 ∧ 0 ≤ n ∧ n ≤ 99 := by
 have hbare : ∀ m, bareB name n kids m = true → name.length ≤ 2000 ∧ 0 ≤ n ∧ n ≤ 99 := fun m hb => by
  simp only [bareB, Bool.and_eq_true, decide_eq_true_eq] at hb
  obtain ⟨h1, h2, _⟩ := hb
  subst h1 h2
  exact ⟨Nat.zero_le _, by omega, by omega⟩
 rcases h with h | h
 ·rw [Uh] at h
  split at h
  ·exact hbare _ h
  ·split at h
   ·rw [Bool.and_eq_true] at h; exact hbare _ h.1
   ·split at h
    ·rw [Bool.and_eq_true] at h; exact hbare _ h.1
    ·split at h
     ·simp only [Bool.and_eq_true, decide_eq_true_eq] at h
      exact ⟨nameB_len h.1, h.2.1, by omega⟩
     ·split at h
      ·simp only [Bool.and_eq_true, decide_eq_true_eq] at h
       exact ⟨nameB_len h.1, by omega, by omega⟩
      ·split at h
       ·rw [Bool.and_eq_true] at h; exact hbare _ h.1
       ·split at h
        ·simp only [Bool.and_eq_true, decide_eq_true_eq] at h
         exact ⟨nameB_len h.1, by omega, by omega⟩
        ·cases h
 ·rw [Ua] at h
  split at h
  ·simp only [Bool.and_eq_true, decide_eq_true_eq] at h
   exact ⟨nameB_len h.1, by omega, by omega⟩
  ·split at h
   ·simp only [Bool.and_eq_true, decide_eq_true_eq] at h
    exact ⟨by rw [h.1]; exact Nat.zero_le _, by omega, by omega⟩
   ·split at h
    ·simp only [Bool.and_eq_true, decide_eq_true_eq] at h
     exact ⟨by rw [h.1]; exact Nat.zero_le _, by omega, by omega⟩
    ·split at h
     ·simp only [Bool.and_eq_true, decide_eq_true_eq] at h
      exact ⟨by rw [h.1]; exact Nat.zero_le _, by omega, by omega⟩
     ·split at h
      ·rw [Bool.and_eq_true] at h; exact hbare _ h.1
      ·cases h
theorem okN_okB (x : Nd) : okN x → okB 99 x = true := by
 refine nd_rec (M := fun x => okN x → okB 99 x = true) (fun op name n a kids ih h => ?_) x
 obtain ⟨h1, h2, h3⟩ := okN_small h
 rw [okB_mk]
 simp only [Bool.and_eq_true, decide_eq_true_eq, List.all_eq_true]
 refine ⟨by omega, h2, h3, ?_, ?_, fun k hk => ih k hk (okN_kids h k hk)⟩
 ·by_cases hb : op = [101, 120] ∨ op = [97, 108, 108]
  ·obtain ⟨k, rfl⟩ := okN_bind h hb
   simp
  ·have : (decide (op = [101, 120]) || decide (op = [97, 108, 108])) = false := by
    rw [Bool.or_eq_false_iff]
    exact ⟨decide_eq_false fun e => hb (.inl e), decide_eq_false fun e => hb (.inr e)⟩
   rw [this]; rfl
 ·by_cases hp : op = [112, 108, 117, 115]
  ·subst hp
   rcases h with h | h
   ·exact (formN_plus h).elim
   ·obtain ⟨k, rfl, hk, _⟩ := termN_plus h rfl
    simp [hk]
  ·rw [decide_eq_false hp]; rfl
theorem term_num {t : Nd} (h : termN t = true) : 0 ≤ t.num' ∧ t.num' ≤ 99 := by
 obtain ⟨o, s, z, a, l⟩ := t
 have := okN_small (.inr h)
 exact ⟨this.2.1, this.2.2⟩
/-! Names anywhere. -/
mutual
def allNm : Nd → List (List Nat)
 | .mk _ name _ _ kids => name :: allNmL kids
def allNmL : List Nd → List (List Nat)
 | [] => []
 | k :: l => allNm k ++ allNmL l
end
theorem allNmL_mem {z : List Nat} : ∀ {l : List Nd}, z ∈ allNmL l ↔ ∃ k ∈ l, z ∈ allNm k := by
 intro l
 induction l with
 | nil => simp [allNmL]
 | cons k l ih => rw [allNmL, List.mem_append, ih]; simp
def ByA (x : Nd) : Prop := ∀ s ∈ allNm x, Bytes s
theorem RdN.byA {h : Hp} {x : Nd} {cs : List AV} (r : RdN h x cs) : ByA x := by
 induction r with
 | leaf hs ha hb =>
  intro s hm
  rw [allNm, allNmL] at hm
  rw [List.mem_singleton] at hm
  subst hm; exact hb.2
 | node hr hn hl hk hb ih =>
  intro s hm
  rw [allNm] at hm
  rcases List.mem_cons.1 hm with e | hm
  ·subst e; exact hb.2
  ·obtain ⟨k, hk', h⟩ := allNmL_mem.1 hm
   obtain ⟨i, hi⟩ := List.getElem?_of_mem hk'
   exact ih i k hi s h
theorem names_all (x : Nd) : ∀ b z, z ∈ namesN x b → z ∈ allNm x := by
 refine nd_rec (M := fun x => ∀ b z, z ∈ namesN x b → z ∈ allNm x) (fun op name n a kids ih b z h => ?_) x
 have hk : ∀ b, z ∈ namesL kids b → z ∈ allNm (.mk op name n a kids) := fun b h => by
  obtain ⟨k, hk, h⟩ := mem_namesL.1 h
  rw [allNm]
  exact List.mem_cons_of_mem _ (allNmL_mem.2 ⟨k, hk, ih k hk b z h⟩)
 rw [namesN] at h
 split at h
 ·split at h
  ·cases h
  ·rw [List.mem_singleton] at h
   subst h
   rw [allNm]; exact List.mem_cons_self ..
 ·split at h
  ·exact hk _ h
  ·exact hk _ h
theorem ByA.names {x : Nd} (h : ByA x) : ∀ s ∈ namesN x [], Bytes s := fun s hs => h s (names_all x [] s hs)
theorem mem_freeN {x : Nd} (h : ByA x) (z : List Nat) : z ∈ freeN x ↔ z ∈ namesN x [] := sc_mem h.names z
/-! A fresh name is fresh. -/
/-! What is free in what was put, variables being put. -/
def sigN (ns : List (List Nat)) (ts : List Nd) (y : List Nat) : List Nat := match lookT ns ts y with
 | some t => t.name
 | none => y
def VarT (t : Nd) : Prop := t.op = [118, 97, 114] ∧ Bytes t.name
/-! One variable for one name. -/
/-- What the law gathers. -/
noncomputable def wantN (name : List Nat) (k : List (List Nat)) : List (List Nat) → List (List Nat) → List (List Nat)
  | [], acc => acc
  | y :: l, acc => wantN name k l (if y = name then insAll acc k else insN y acc)
end Go.Proofs.YtmjnbdkjekdkgaaDoor
