/-
  Closed by a track, plainly.
-/
import Derived.Test.YtiknomepbklibaaDoorQtAm
namespace Go.Proofs.YtiknomepbklibaaDoor
set_option linter.unusedVariables false

/-- Behind more letters of the track, or none, it accepts. -/
inductive ClP (a : Au) (k : Nat) : Nat → Prop
  | acc {s : Nat} (h : a.ok s = true) : ClP a k s
  | low {s : Nat} (h : ClP a k (a.go s 0)) : ClP a k s
  | high {s : Nat} (h : ClP a k (a.go s (2 ^ k))) : ClP a k s
def bvl (l : List Bool) (s : Nat) : Bool := (l[s]?).getD false
structure ClAcc (a : Au) (k : Nat) (l : List Bool) : Prop where
 len : l.length = a.n
 iff : ∀ s, s < a.n → (bvl l s = true ↔ ClP a k s)
theorem go_row {a : Au} {s c : Nat} {r : List Int} {z : Int} (h1 : a.nx[s]? = some r) (h2 : r[c]? = some z) : a.go s c = z.toNat := by
 unfold Au.go; rw [h1, Option.getD_some, h2, Option.getD_some]
def falses (l : List Bool) : Nat := l.countP fun b => !b
theorem falses_set : ∀ {l : List Bool} {j : Nat}, l[j]? = some false → falses (l.set j true) + 1 = falses l
 | [], j, h => by simp at h
 | b :: l, 0, h => by
  injection h with h
  subst h
  rw [List.set_cons_zero, falses, falses, List.countP_cons, List.countP_cons]
  simp
 | b :: l, j + 1, h => by
  have := falses_set (l := l) (j := j) h
  rw [List.set_cons_succ, falses, falses, List.countP_cons, List.countP_cons]
  rw [falses, falses] at this
  omega
theorem bvl_set {l : List Bool} {j s : Nat} {b : Bool} (hj : j < l.length) : bvl (l.set j b) s = if s = j then b else bvl l s := by
 unfold bvl
 rw [List.getElem?_set]
 by_cases h : j = s
 ·subst h
  rw [if_pos rfl, if_pos hj, if_pos rfl]; rfl
 ·rw [if_neg h, if_neg fun e => h e.symm]
theorem bvl_at {l : List Bool} {s : Nat} {b : Bool} (h : l[s]? = some b) : bvl l s = b := by unfold bvl; rw [h]; rfl
structure CInv (a : Au) (k : Nat) (l : List Bool) : Prop where
 len : l.length = a.n
 sound : ∀ s, s < a.n → bvl l s = true → ClP a k s
 ext : ∀ s, s < a.n → a.ok s = true → bvl l s = true
theorem CInv.start (a : Au) (k : Nat) : CInv a k a.acc := ⟨rfl, fun s _ h => .acc h, fun s _ h => h⟩
theorem CInv.set {a : Au} {k s : Nat} {l : List Bool} (h : CInv a k l) (hs : s < a.n) (h0 : a.go s 0 < a.n) (h1 : a.go s (2 ^ k) < a.n) (hb : bvl l (a.go s 0) = true ∨ bvl l (a.go s (2 ^ k)) = true) : CInv a k (l.set s true) := by
 have hl : s < l.length := by rw [h.len]; exact hs
 refine ⟨by rw [List.length_set]; exact h.len, fun t ht e => ?_, fun t ht e => ?_⟩
 ·rw [bvl_set hl] at e
  by_cases hts : t = s
  ·subst hts
   rcases hb with hb | hb
   ·exact .low (h.sound _ h0 hb)
   ·exact .high (h.sound _ h1 hb)
  ·rw [if_neg hts] at e
   exact h.sound t ht e
 ·rw [bvl_set hl]
  split
  ·rfl
  ·exact h.ext t ht e
def Shut (a : Au) (k : Nat) (l : List Bool) (s : Nat) : Prop := bvl l (a.go s 0) = true ∨ bvl l (a.go s (2 ^ k)) = true → bvl l s = true
theorem CInv.done {a : Au} {k : Nat} {l : List Bool} (h : CInv a k l) (W : WFA a) (hk : 2 ^ k < a.K) (hc : ∀ s, s < a.n → Shut a k l s) : ClAcc a k l := by
 refine ⟨h.len, fun s hs => ⟨h.sound s hs, fun hp => ?_⟩⟩
 have hK : 0 < a.K := Nat.two_pow_pos _
 induction hp with
 | acc e => exact h.ext _ hs e
 | low _ ih => exact hc _ hs (.inl (ih (W.go_lt hs hK)))
 | high _ ih => exact hc _ hs (.inr (ih (W.go_lt hs hk)))
/-- Within a round. -/
structure CIn (a : Au) (k : Nat) (l0 l : List Bool) (more : Bool) (s : Nat) : Prop where
  inv : CInv a k l
  le : falses l ≤ falses l0
  yes : more = true → falses l < falses l0
  no : more = false → l = l0 ∧ ∀ t, t < s → Shut a k l t
theorem CIn.start {a : Au} {k : Nat} {l : List Bool} (h : CInv a k l) : CIn a k l l false 0 := ⟨h, Nat.le_refl _, fun e => (by cases e), fun _ => ⟨rfl, fun t ht => absurd ht (Nat.not_lt_zero t)⟩⟩
theorem CIn.keep {a : Au} {k s : Nat} {l0 l : List Bool} {more : Bool} (h : CIn a k l0 l more s) (hc : Shut a k l s) : CIn a k l0 l more (s + 1) :=
 ⟨h.inv, h.le, h.yes, fun e => ⟨(h.no e).1, fun t ht => by
  rcases Nat.lt_succ_iff_lt_or_eq.1 ht with h1 | rfl
  ·exact (h.no e).2 t h1
  ·exact hc⟩⟩
theorem CIn.set {a : Au} {k s : Nat} {l0 l : List Bool} {more : Bool} (h : CIn a k l0 l more s) (hs : s < a.n) (h0 : a.go s 0 < a.n) (h1 : a.go s (2 ^ k) < a.n) (hf : l[s]? = some false) (hb : bvl l (a.go s 0) = true ∨ bvl l (a.go s (2 ^ k)) = true) : CIn a k l0 (l.set s true) true (s + 1) := by
 have := falses_set hf
 have := h.le
 exact ⟨h.inv.set hs h0 h1 hb, by omega, fun _ => by omega, fun e => (by cases e)⟩
/-- What is measured at a round's beginning. -/
def cMeas (l : List Bool) (more : Bool) : Nat := 2 * falses l + (if more then 1 else 0)
theorem CIn.meas {a : Au} {k s : Nat} {l0 l : List Bool} {more : Bool} (h : CIn a k l0 l more s) : cMeas l more < cMeas l0 true := by
 unfold cMeas
 rw [if_pos rfl]
 cases more with
 | true => have := h.yes rfl; rw [if_pos rfl]; omega
 | false => have := h.le; rw [if_neg (by decide)]; omega
end Go.Proofs.YtiknomepbklibaaDoor
