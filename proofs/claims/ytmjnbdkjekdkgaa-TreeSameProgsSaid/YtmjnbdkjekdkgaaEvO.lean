/-
  A swift reckoner: what the reckoner of EvJ does, with what does not change reckoned once. Definitions. (printed by gen_evo.py)
-/
import Derived.Test.YtmjnbdkjekdkgaaEvN
namespace Go.Proofs.Ytmjnbdkjekdkgaa
open Go
set_option linter.unusedVariables false
set_option maxRecDepth 100000

/-! Where temporaries lie: sixteen rows of sixteen. -/
structure Q1 where
  a0 : AV
  a1 : AV
  a2 : AV
  a3 : AV
  a4 : AV
  a5 : AV
  a6 : AV
  a7 : AV
  a8 : AV
  a9 : AV
  a10 : AV
  a11 : AV
  a12 : AV
  a13 : AV
  a14 : AV
  a15 : AV
structure Q2 where
  a0 : Q1
  a1 : Q1
  a2 : Q1
  a3 : Q1
  a4 : Q1
  a5 : Q1
  a6 : Q1
  a7 : Q1
  a8 : Q1
  a9 : Q1
  a10 : Q1
  a11 : Q1
  a12 : Q1
  a13 : Q1
  a14 : Q1
  a15 : Q1
inductive Dg where
  | d0
  | d1
  | d2
  | d3
  | d4
  | d5
  | d6
  | d7
  | d8
  | d9
  | d10
  | d11
  | d12
  | d13
  | d14
  | d15

noncomputable section
def Q1.u0 : Q1 → AV → (Q1 → Bool) → Bool := fun q v k => (Q1.rec (motive := fun _ => AV → (Q1 → Bool) → Bool) (fun x0 x1 x2 x3 x4 x5 x6 x7 x8 x9 x10 x11 x12 x13 x14 x15 v k => k (Q1.mk v x1 x2 x3 x4 x5 x6 x7 x8 x9 x10 x11 x12 x13 x14 x15))) q v k
def Q1.u1 : Q1 → AV → (Q1 → Bool) → Bool := fun q v k => (Q1.rec (motive := fun _ => AV → (Q1 → Bool) → Bool) (fun x0 x1 x2 x3 x4 x5 x6 x7 x8 x9 x10 x11 x12 x13 x14 x15 v k => k (Q1.mk x0 v x2 x3 x4 x5 x6 x7 x8 x9 x10 x11 x12 x13 x14 x15))) q v k
def Q1.u2 : Q1 → AV → (Q1 → Bool) → Bool := fun q v k => (Q1.rec (motive := fun _ => AV → (Q1 → Bool) → Bool) (fun x0 x1 x2 x3 x4 x5 x6 x7 x8 x9 x10 x11 x12 x13 x14 x15 v k => k (Q1.mk x0 x1 v x3 x4 x5 x6 x7 x8 x9 x10 x11 x12 x13 x14 x15))) q v k
def Q1.u3 : Q1 → AV → (Q1 → Bool) → Bool := fun q v k => (Q1.rec (motive := fun _ => AV → (Q1 → Bool) → Bool) (fun x0 x1 x2 x3 x4 x5 x6 x7 x8 x9 x10 x11 x12 x13 x14 x15 v k => k (Q1.mk x0 x1 x2 v x4 x5 x6 x7 x8 x9 x10 x11 x12 x13 x14 x15))) q v k
def Q1.u4 : Q1 → AV → (Q1 → Bool) → Bool := fun q v k => (Q1.rec (motive := fun _ => AV → (Q1 → Bool) → Bool) (fun x0 x1 x2 x3 x4 x5 x6 x7 x8 x9 x10 x11 x12 x13 x14 x15 v k => k (Q1.mk x0 x1 x2 x3 v x5 x6 x7 x8 x9 x10 x11 x12 x13 x14 x15))) q v k
def Q1.u5 : Q1 → AV → (Q1 → Bool) → Bool := fun q v k => (Q1.rec (motive := fun _ => AV → (Q1 → Bool) → Bool) (fun x0 x1 x2 x3 x4 x5 x6 x7 x8 x9 x10 x11 x12 x13 x14 x15 v k => k (Q1.mk x0 x1 x2 x3 x4 v x6 x7 x8 x9 x10 x11 x12 x13 x14 x15))) q v k
def Q1.u6 : Q1 → AV → (Q1 → Bool) → Bool := fun q v k => (Q1.rec (motive := fun _ => AV → (Q1 → Bool) → Bool) (fun x0 x1 x2 x3 x4 x5 x6 x7 x8 x9 x10 x11 x12 x13 x14 x15 v k => k (Q1.mk x0 x1 x2 x3 x4 x5 v x7 x8 x9 x10 x11 x12 x13 x14 x15))) q v k
def Q1.u7 : Q1 → AV → (Q1 → Bool) → Bool := fun q v k => (Q1.rec (motive := fun _ => AV → (Q1 → Bool) → Bool) (fun x0 x1 x2 x3 x4 x5 x6 x7 x8 x9 x10 x11 x12 x13 x14 x15 v k => k (Q1.mk x0 x1 x2 x3 x4 x5 x6 v x8 x9 x10 x11 x12 x13 x14 x15))) q v k
def Q1.u8 : Q1 → AV → (Q1 → Bool) → Bool := fun q v k => (Q1.rec (motive := fun _ => AV → (Q1 → Bool) → Bool) (fun x0 x1 x2 x3 x4 x5 x6 x7 x8 x9 x10 x11 x12 x13 x14 x15 v k => k (Q1.mk x0 x1 x2 x3 x4 x5 x6 x7 v x9 x10 x11 x12 x13 x14 x15))) q v k
def Q1.u9 : Q1 → AV → (Q1 → Bool) → Bool := fun q v k => (Q1.rec (motive := fun _ => AV → (Q1 → Bool) → Bool) (fun x0 x1 x2 x3 x4 x5 x6 x7 x8 x9 x10 x11 x12 x13 x14 x15 v k => k (Q1.mk x0 x1 x2 x3 x4 x5 x6 x7 x8 v x10 x11 x12 x13 x14 x15))) q v k
def Q1.u10 : Q1 → AV → (Q1 → Bool) → Bool := fun q v k => (Q1.rec (motive := fun _ => AV → (Q1 → Bool) → Bool) (fun x0 x1 x2 x3 x4 x5 x6 x7 x8 x9 x10 x11 x12 x13 x14 x15 v k => k (Q1.mk x0 x1 x2 x3 x4 x5 x6 x7 x8 x9 v x11 x12 x13 x14 x15))) q v k
def Q1.u11 : Q1 → AV → (Q1 → Bool) → Bool := fun q v k => (Q1.rec (motive := fun _ => AV → (Q1 → Bool) → Bool) (fun x0 x1 x2 x3 x4 x5 x6 x7 x8 x9 x10 x11 x12 x13 x14 x15 v k => k (Q1.mk x0 x1 x2 x3 x4 x5 x6 x7 x8 x9 x10 v x12 x13 x14 x15))) q v k
def Q1.u12 : Q1 → AV → (Q1 → Bool) → Bool := fun q v k => (Q1.rec (motive := fun _ => AV → (Q1 → Bool) → Bool) (fun x0 x1 x2 x3 x4 x5 x6 x7 x8 x9 x10 x11 x12 x13 x14 x15 v k => k (Q1.mk x0 x1 x2 x3 x4 x5 x6 x7 x8 x9 x10 x11 v x13 x14 x15))) q v k
def Q1.u13 : Q1 → AV → (Q1 → Bool) → Bool := fun q v k => (Q1.rec (motive := fun _ => AV → (Q1 → Bool) → Bool) (fun x0 x1 x2 x3 x4 x5 x6 x7 x8 x9 x10 x11 x12 x13 x14 x15 v k => k (Q1.mk x0 x1 x2 x3 x4 x5 x6 x7 x8 x9 x10 x11 x12 v x14 x15))) q v k
def Q1.u14 : Q1 → AV → (Q1 → Bool) → Bool := fun q v k => (Q1.rec (motive := fun _ => AV → (Q1 → Bool) → Bool) (fun x0 x1 x2 x3 x4 x5 x6 x7 x8 x9 x10 x11 x12 x13 x14 x15 v k => k (Q1.mk x0 x1 x2 x3 x4 x5 x6 x7 x8 x9 x10 x11 x12 x13 v x15))) q v k
def Q1.u15 : Q1 → AV → (Q1 → Bool) → Bool := fun q v k => (Q1.rec (motive := fun _ => AV → (Q1 → Bool) → Bool) (fun x0 x1 x2 x3 x4 x5 x6 x7 x8 x9 x10 x11 x12 x13 x14 x15 v k => k (Q1.mk x0 x1 x2 x3 x4 x5 x6 x7 x8 x9 x10 x11 x12 x13 x14 v))) q v k
def Q1.at (d : Dg) : Q1 → AV := Dg.rec (motive := fun _ => Q1 → AV) Q1.a0 Q1.a1 Q1.a2 Q1.a3 Q1.a4 Q1.a5 Q1.a6 Q1.a7 Q1.a8 Q1.a9 Q1.a10 Q1.a11 Q1.a12 Q1.a13 Q1.a14 Q1.a15 d
def Q1.up (d : Dg) : Q1 → AV → (Q1 → Bool) → Bool := Dg.rec (motive := fun _ => Q1 → AV → (Q1 → Bool) → Bool) Q1.u0 Q1.u1 Q1.u2 Q1.u3 Q1.u4 Q1.u5 Q1.u6 Q1.u7 Q1.u8 Q1.u9 Q1.u10 Q1.u11 Q1.u12 Q1.u13 Q1.u14 Q1.u15 d
/-- The same, each digit's own. -/
def Q1.withA {β : Type} (d : Dg) (k : (Q1 → AV) → (Q1 → AV → (Q1 → Bool) → Bool) → β) : β := Dg.rec (motive := fun _ => β) (k Q1.a0 Q1.u0) (k Q1.a1 Q1.u1) (k Q1.a2 Q1.u2) (k Q1.a3 Q1.u3) (k Q1.a4 Q1.u4) (k Q1.a5 Q1.u5) (k Q1.a6 Q1.u6) (k Q1.a7 Q1.u7) (k Q1.a8 Q1.u8) (k Q1.a9 Q1.u9) (k Q1.a10 Q1.u10) (k Q1.a11 Q1.u11) (k Q1.a12 Q1.u12) (k Q1.a13 Q1.u13) (k Q1.a14 Q1.u14) (k Q1.a15 Q1.u15) d
theorem Q1.withA_eq {β : Type} (d : Dg) (k : (Q1 → AV) → (Q1 → AV → (Q1 → Bool) → Bool) → β) : Q1.withA d k = k (Q1.at d) (Q1.up d) := by cases d <;> rfl
theorem Q1.up_spec (d : Dg) (q : Q1) (v : AV) (k : Q1 → Bool) : ∃ q', Q1.up d q v k = k q' ∧ Q1.at d q' = v ∧ ∀ e, e ≠ d → Q1.at e q' = Q1.at e q := by
  cases d <;> exact ⟨_, rfl, rfl, fun e he => by cases e <;> first | rfl | exact absurd rfl he⟩
def Q2.u0 : Q2 → Q1 → (Q2 → Bool) → Bool := fun q v k => (Q2.rec (motive := fun _ => Q1 → (Q2 → Bool) → Bool) (fun x0 x1 x2 x3 x4 x5 x6 x7 x8 x9 x10 x11 x12 x13 x14 x15 v k => k (Q2.mk v x1 x2 x3 x4 x5 x6 x7 x8 x9 x10 x11 x12 x13 x14 x15))) q v k
def Q2.u1 : Q2 → Q1 → (Q2 → Bool) → Bool := fun q v k => (Q2.rec (motive := fun _ => Q1 → (Q2 → Bool) → Bool) (fun x0 x1 x2 x3 x4 x5 x6 x7 x8 x9 x10 x11 x12 x13 x14 x15 v k => k (Q2.mk x0 v x2 x3 x4 x5 x6 x7 x8 x9 x10 x11 x12 x13 x14 x15))) q v k
def Q2.u2 : Q2 → Q1 → (Q2 → Bool) → Bool := fun q v k => (Q2.rec (motive := fun _ => Q1 → (Q2 → Bool) → Bool) (fun x0 x1 x2 x3 x4 x5 x6 x7 x8 x9 x10 x11 x12 x13 x14 x15 v k => k (Q2.mk x0 x1 v x3 x4 x5 x6 x7 x8 x9 x10 x11 x12 x13 x14 x15))) q v k
def Q2.u3 : Q2 → Q1 → (Q2 → Bool) → Bool := fun q v k => (Q2.rec (motive := fun _ => Q1 → (Q2 → Bool) → Bool) (fun x0 x1 x2 x3 x4 x5 x6 x7 x8 x9 x10 x11 x12 x13 x14 x15 v k => k (Q2.mk x0 x1 x2 v x4 x5 x6 x7 x8 x9 x10 x11 x12 x13 x14 x15))) q v k
def Q2.u4 : Q2 → Q1 → (Q2 → Bool) → Bool := fun q v k => (Q2.rec (motive := fun _ => Q1 → (Q2 → Bool) → Bool) (fun x0 x1 x2 x3 x4 x5 x6 x7 x8 x9 x10 x11 x12 x13 x14 x15 v k => k (Q2.mk x0 x1 x2 x3 v x5 x6 x7 x8 x9 x10 x11 x12 x13 x14 x15))) q v k
def Q2.u5 : Q2 → Q1 → (Q2 → Bool) → Bool := fun q v k => (Q2.rec (motive := fun _ => Q1 → (Q2 → Bool) → Bool) (fun x0 x1 x2 x3 x4 x5 x6 x7 x8 x9 x10 x11 x12 x13 x14 x15 v k => k (Q2.mk x0 x1 x2 x3 x4 v x6 x7 x8 x9 x10 x11 x12 x13 x14 x15))) q v k
def Q2.u6 : Q2 → Q1 → (Q2 → Bool) → Bool := fun q v k => (Q2.rec (motive := fun _ => Q1 → (Q2 → Bool) → Bool) (fun x0 x1 x2 x3 x4 x5 x6 x7 x8 x9 x10 x11 x12 x13 x14 x15 v k => k (Q2.mk x0 x1 x2 x3 x4 x5 v x7 x8 x9 x10 x11 x12 x13 x14 x15))) q v k
def Q2.u7 : Q2 → Q1 → (Q2 → Bool) → Bool := fun q v k => (Q2.rec (motive := fun _ => Q1 → (Q2 → Bool) → Bool) (fun x0 x1 x2 x3 x4 x5 x6 x7 x8 x9 x10 x11 x12 x13 x14 x15 v k => k (Q2.mk x0 x1 x2 x3 x4 x5 x6 v x8 x9 x10 x11 x12 x13 x14 x15))) q v k
def Q2.u8 : Q2 → Q1 → (Q2 → Bool) → Bool := fun q v k => (Q2.rec (motive := fun _ => Q1 → (Q2 → Bool) → Bool) (fun x0 x1 x2 x3 x4 x5 x6 x7 x8 x9 x10 x11 x12 x13 x14 x15 v k => k (Q2.mk x0 x1 x2 x3 x4 x5 x6 x7 v x9 x10 x11 x12 x13 x14 x15))) q v k
def Q2.u9 : Q2 → Q1 → (Q2 → Bool) → Bool := fun q v k => (Q2.rec (motive := fun _ => Q1 → (Q2 → Bool) → Bool) (fun x0 x1 x2 x3 x4 x5 x6 x7 x8 x9 x10 x11 x12 x13 x14 x15 v k => k (Q2.mk x0 x1 x2 x3 x4 x5 x6 x7 x8 v x10 x11 x12 x13 x14 x15))) q v k
def Q2.u10 : Q2 → Q1 → (Q2 → Bool) → Bool := fun q v k => (Q2.rec (motive := fun _ => Q1 → (Q2 → Bool) → Bool) (fun x0 x1 x2 x3 x4 x5 x6 x7 x8 x9 x10 x11 x12 x13 x14 x15 v k => k (Q2.mk x0 x1 x2 x3 x4 x5 x6 x7 x8 x9 v x11 x12 x13 x14 x15))) q v k
def Q2.u11 : Q2 → Q1 → (Q2 → Bool) → Bool := fun q v k => (Q2.rec (motive := fun _ => Q1 → (Q2 → Bool) → Bool) (fun x0 x1 x2 x3 x4 x5 x6 x7 x8 x9 x10 x11 x12 x13 x14 x15 v k => k (Q2.mk x0 x1 x2 x3 x4 x5 x6 x7 x8 x9 x10 v x12 x13 x14 x15))) q v k
def Q2.u12 : Q2 → Q1 → (Q2 → Bool) → Bool := fun q v k => (Q2.rec (motive := fun _ => Q1 → (Q2 → Bool) → Bool) (fun x0 x1 x2 x3 x4 x5 x6 x7 x8 x9 x10 x11 x12 x13 x14 x15 v k => k (Q2.mk x0 x1 x2 x3 x4 x5 x6 x7 x8 x9 x10 x11 v x13 x14 x15))) q v k
def Q2.u13 : Q2 → Q1 → (Q2 → Bool) → Bool := fun q v k => (Q2.rec (motive := fun _ => Q1 → (Q2 → Bool) → Bool) (fun x0 x1 x2 x3 x4 x5 x6 x7 x8 x9 x10 x11 x12 x13 x14 x15 v k => k (Q2.mk x0 x1 x2 x3 x4 x5 x6 x7 x8 x9 x10 x11 x12 v x14 x15))) q v k
def Q2.u14 : Q2 → Q1 → (Q2 → Bool) → Bool := fun q v k => (Q2.rec (motive := fun _ => Q1 → (Q2 → Bool) → Bool) (fun x0 x1 x2 x3 x4 x5 x6 x7 x8 x9 x10 x11 x12 x13 x14 x15 v k => k (Q2.mk x0 x1 x2 x3 x4 x5 x6 x7 x8 x9 x10 x11 x12 x13 v x15))) q v k
def Q2.u15 : Q2 → Q1 → (Q2 → Bool) → Bool := fun q v k => (Q2.rec (motive := fun _ => Q1 → (Q2 → Bool) → Bool) (fun x0 x1 x2 x3 x4 x5 x6 x7 x8 x9 x10 x11 x12 x13 x14 x15 v k => k (Q2.mk x0 x1 x2 x3 x4 x5 x6 x7 x8 x9 x10 x11 x12 x13 x14 v))) q v k
def Q2.at (d : Dg) : Q2 → Q1 := Dg.rec (motive := fun _ => Q2 → Q1) Q2.a0 Q2.a1 Q2.a2 Q2.a3 Q2.a4 Q2.a5 Q2.a6 Q2.a7 Q2.a8 Q2.a9 Q2.a10 Q2.a11 Q2.a12 Q2.a13 Q2.a14 Q2.a15 d
def Q2.up (d : Dg) : Q2 → Q1 → (Q2 → Bool) → Bool := Dg.rec (motive := fun _ => Q2 → Q1 → (Q2 → Bool) → Bool) Q2.u0 Q2.u1 Q2.u2 Q2.u3 Q2.u4 Q2.u5 Q2.u6 Q2.u7 Q2.u8 Q2.u9 Q2.u10 Q2.u11 Q2.u12 Q2.u13 Q2.u14 Q2.u15 d
/-- The same, each digit's own. -/
def Q2.withA {β : Type} (d : Dg) (k : (Q2 → Q1) → (Q2 → Q1 → (Q2 → Bool) → Bool) → β) : β := Dg.rec (motive := fun _ => β) (k Q2.a0 Q2.u0) (k Q2.a1 Q2.u1) (k Q2.a2 Q2.u2) (k Q2.a3 Q2.u3) (k Q2.a4 Q2.u4) (k Q2.a5 Q2.u5) (k Q2.a6 Q2.u6) (k Q2.a7 Q2.u7) (k Q2.a8 Q2.u8) (k Q2.a9 Q2.u9) (k Q2.a10 Q2.u10) (k Q2.a11 Q2.u11) (k Q2.a12 Q2.u12) (k Q2.a13 Q2.u13) (k Q2.a14 Q2.u14) (k Q2.a15 Q2.u15) d
theorem Q2.withA_eq {β : Type} (d : Dg) (k : (Q2 → Q1) → (Q2 → Q1 → (Q2 → Bool) → Bool) → β) : Q2.withA d k = k (Q2.at d) (Q2.up d) := by cases d <;> rfl
theorem Q2.up_spec (d : Dg) (q : Q2) (v : Q1) (k : Q2 → Bool) : ∃ q', Q2.up d q v k = k q' ∧ Q2.at d q' = v ∧ ∀ e, e ≠ d → Q2.at e q' = Q2.at e q := by
  cases d <;> exact ⟨_, rfl, rfl, fun e he => by cases e <;> first | rfl | exact absurd rfl he⟩

def dgOf (n : Nat) : Option Dg := match n with
  | 0 => some .d0
  | 1 => some .d1
  | 2 => some .d2
  | 3 => some .d3
  | 4 => some .d4
  | 5 => some .d5
  | 6 => some .d6
  | 7 => some .d7
  | 8 => some .d8
  | 9 => some .d9
  | 10 => some .d10
  | 11 => some .d11
  | 12 => some .d12
  | 13 => some .d13
  | 14 => some .d14
  | 15 => some .d15
  | _ => none
def Dg.num (d : Dg) : Nat := match d with
  | .d0 => 0
  | .d1 => 1
  | .d2 => 2
  | .d3 => 3
  | .d4 => 4
  | .d5 => 5
  | .d6 => 6
  | .d7 => 7
  | .d8 => 8
  | .d9 => 9
  | .d10 => 10
  | .d11 => 11
  | .d12 => 12
  | .d13 => 13
  | .d14 => 14
  | .d15 => 15
theorem dgOf_eq {n : Nat} {d : Dg} (h : dgOf n = some d) : n = d.num := by
  unfold dgOf at h
  split at h <;> first | (injection h with h; subst h; rfl) | cases h
theorem Dg.num_inj {d e : Dg} (h : d.num = e.num) : d = e := by cases d <;> cases e <;> first | rfl | (simp [Dg.num] at h; done)

abbrev KB := Q2 → St → Bool
abbrev CallC := FuncId → List AV → St → (AV → St → Bool) → Bool
abbrev Run := CallC → KB → Q2 → St → Bool
abbrev Put := Q2 → AV → KB → St → Bool
abbrev KV := AV → Bool
structure CI where
  run : Run
def getN (t : Nat) (q : Q2) : AV := match dgOf (t / 16) with
  | some i => (match dgOf (t % 16) with
    | some j => Q1.at j (Q2.at i q)
    | none => .tup [])
  | none => .tup []
def getT (g1 : Q1 → AV) (g2 : Q2 → Q1) : Q2 → AV := fun T => g1 (g2 T)
/-- A value that is known by its head. -/
def forceV : AV → KV → Bool := AV.rec (motive_1 := fun _ => KV → Bool) (motive_2 := fun _ => Unit) (fun b k => k (.bool b)) (fun j n k => k (.int j n)) (fun l k => k (.str l)) (fun k => k .nilp) (fun c m o k => k (.ptr c m o)) (fun k => k .nils) (fun c m o l z k => k (.sl c m o l z)) (fun c m o a z k => k (.slz c m o a z)) (fun b o s k => k (.sl0 b o s)) (fun f a c _ _ k => k (.fn f a c)) (fun k => k .nilf) (fun t v _ k => k (.ifc t v)) (fun k => k .nili) (fun c k => k (.mp c)) (fun k => k .nilm) (fun l _ k => k (.agg l)) (fun l _ k => k (.tup l)) () (fun _ _ _ _ => ())
theorem forceV_eq (v : AV) (k : KV) : forceV v k = k v := by cases v <;> rfl
def putT (u1 : Q1 → AV → (Q1 → Bool) → Bool) (g2 : Q2 → Q1) (u2 : Q2 → Q1 → (Q2 → Bool) → Bool) : Put := fun T v K st => forceV v fun v => u1 (g2 T) v fun q => u2 T q fun T => K T st
def withTmp {β : Type} (t : Nat) (bad : β) (k : (Q2 → AV) → Put → β) : β := match dgOf (t / 16) with
  | some i => (match dgOf (t % 16) with
    | some j => Q1.withA j fun g1 u1 => Q2.withA i fun g2 u2 => k (getT g1 g2) (putT u1 g2 u2)
    | none => bad)
  | none => bad
def badRun : Run := fun _ _ _ _ => false
def badCI : CI := ⟨badRun⟩
def withG {β : Type} (G : Env) (x : Operand) (bad : β) (k : (Q2 → AV) → β) : β := match x with
  | .tmp t => withTmp t bad fun g _ => k g
  | .const v => Option.rec bad (fun a => k (fun _ => a)) (ofConst v)
  | .global g => bif' (G.g g) (k (fun _ => .ptr g 0 0)) bad
  | .func f => k (fun _ => .fn f [] [])
def withP (N : Nat) (d : Option Nat) (k : Put → CI) : CI := match d with
  | none => k (fun T _ K st => K T st)
  | some t => bif' (Nat.ble (t + 1) N) (withTmp t badCI fun _ p => k p) badCI
def withGs {β : Type} (G : Env) (bad : β) (l : List Operand) : (List (Q2 → AV) → β) → β := List.rec (fun k => k []) (fun x _ ih k => withG G x bad fun g => ih fun gs => k (g :: gs)) l
/-- All values of a row of operands. -/
def rowG (gs : List (Q2 → AV)) : Q2 → (List AV → Bool) → Bool := List.rec (fun _ k => k []) (fun g _ ih T k => ih T fun l => k (g T :: l)) gs
def opC (G : Env) (q : Q2) (x : Operand) : Option AV := match x with
  | .tmp t => some (getN t q)
  | .const v => ofConst v
  | .global g => need (G.g g) (some (.ptr g 0 0))
  | .func f => some (.fn f [] [])
/-- Of an option, or false. -/
def obB {α : Type} (x : Option α) (k : α → Bool) : Bool := Option.rec false k x

/-! Operations. -/
def mvR (g : Q2 → AV) (p : Put) : Run := fun _ K T st => p T (g T) K st
def unR (f : AV → KV → Bool) (g : Q2 → AV) (p : Put) : Run := fun _ K T st => f (g T) fun v => p T v K st
def biR (f : AV → AV → KV → Bool) (g h : Q2 → AV) (p : Put) : Run := fun _ K T st => f (g T) (h T) fun v => p T v K st
def ldR (f : AV → St → KV → Bool) (g : Q2 → AV) (p : Put) : Run := fun _ K T st => f (g T) st fun v => p T v K st
def stR (f : AV → AV → St → (AV → St → Bool) → Bool) (g h : Q2 → AV) (p : Put) : Run := fun _ K T st => f (g T) (h T) st fun v st => p T v K st
def alR (f : St → (AV → St → Bool) → Bool) (p : Put) : Run := fun _ K T st => f st fun v st => p T v K st
def pickC : AV → AV → AV → KV → Bool := (AV.rec (motive_1 := fun _ => AV → AV → KV → Bool) (motive_2 := fun _ => Unit) (fun b x y k => Bool.rec (k y) (k x) b) ((fun _ _ => fun _ _ _ => false)) ((fun _ => fun _ _ _ => false)) (fun _ _ _ => false) ((fun _ _ _ => fun _ _ _ => false)) (fun _ _ _ => false) ((fun _ _ _ _ _ => fun _ _ _ => false)) ((fun _ _ _ _ _ => fun _ _ _ => false)) ((fun _ _ _ => fun _ _ _ => false)) ((fun _ _ _ _ _ => fun _ _ _ => false)) (fun _ _ _ => false) ((fun _ _ _ => fun _ _ _ => false)) (fun _ _ _ => false) ((fun _ => fun _ _ _ => false)) (fun _ _ _ => false) ((fun _ _ => fun _ _ _ => false)) ((fun _ _ => fun _ _ _ => false)) () (fun _ _ _ _ => ()))
def pkR (f g h : Q2 → AV) (p : Put) : Run := fun _ K T st => pickC (f T) (g T) (h T) fun v => p T v K st
def callR (f : FuncId) (gs : List (Q2 → AV)) (p : Put) : Run := fun cc K T st => rowG gs T fun l => cc f l st fun v st => p T v K st
def callV : AV → CallC → List AV → St → (AV → St → Bool) → Bool := (AV.rec (motive_1 := fun _ => CallC → List AV → St → (AV → St → Bool) → Bool) (motive_2 := fun _ => Unit) ((fun _ => fun _ _ _ _ => false)) ((fun _ _ => fun _ _ _ _ => false)) ((fun _ => fun _ _ _ _ => false)) (fun _ _ _ _ => false) ((fun _ _ _ => fun _ _ _ _ => false)) (fun _ _ _ _ => false) ((fun _ _ _ _ _ => fun _ _ _ _ => false)) ((fun _ _ _ _ _ => fun _ _ _ _ => false)) ((fun _ _ _ => fun _ _ _ _ => false)) (fun f a cap _ _ cc l st k => cc f (appL a (appL l cap)) st k) (fun _ _ _ _ => false) ((fun _ _ _ => fun _ _ _ _ => false)) (fun _ _ _ _ => false) ((fun _ => fun _ _ _ _ => false)) (fun _ _ _ _ => false) ((fun _ _ => fun _ _ _ _ => false)) ((fun _ _ => fun _ _ _ _ => false)) () (fun _ _ _ _ => ()))
def callvR (g : Q2 → AV) (gs : List (Q2 → AV)) (p : Put) : Run := fun cc K T st => rowG gs T fun l => callV (g T) cc l st fun v st => p T v K st
def wantC : AV → Bool → Bool → Bool → Bool := (AV.rec (motive_1 := fun _ => Bool → Bool → Bool → Bool) (motive_2 := fun _ => Unit) (fun b pol x y => Bool.rec (Bool.rec x y pol) (Bool.rec y x pol) b) ((fun _ _ => fun _ _ y => y)) ((fun _ => fun _ _ y => y)) (fun _ _ y => y) ((fun _ _ _ => fun _ _ y => y)) (fun _ _ y => y) ((fun _ _ _ _ _ => fun _ _ y => y)) ((fun _ _ _ _ _ => fun _ _ y => y)) ((fun _ _ _ => fun _ _ y => y)) ((fun _ _ _ _ _ => fun _ _ y => y)) (fun _ _ y => y) ((fun _ _ _ => fun _ _ y => y)) (fun _ _ y => y) ((fun _ => fun _ _ y => y)) (fun _ _ y => y) ((fun _ _ => fun _ _ y => y)) ((fun _ _ => fun _ _ y => y)) () (fun _ _ _ _ => ()))
def grR (g : Q2 → AV) (pol : Bool) (r : Run) (p : Put) : Run := fun cc K T st => wantC (g T) pol (r cc K T st) (p T (.tup []) K st)
def genR (P : Program) (G : Env) (o : Op) (p : Put) : Run := fun _ K T st => obB (aop P (opC G T) o st) fun r => p T r.1 K r.2

/-! Memory. -/
def Tr.getQ {α : Type} (t : Tr α) : Nat → Option α :=
  Tr.rec (fun _ => none) (fun v _ _ gl gr n => Bool.rec (Bool.rec (gr (Nat.div n 2)) (gl (Nat.div n 2)) (Nat.beq (Nat.mod n 2) 0)) v (Nat.beq n 0)) t
abbrev PartC := List AV → Nat → KV → Bool
def partAgg (n : Nat) : PartC := fun l off k => obB (takeK n (dropN off l) fun r => some (.agg r)) k
def partOne : PartC := fun l off k => obB (nth l off) k
def withPart {β : Type} (P : Program) (t : TypeId) (bad : β) (k : PartC → β) : β := match tk P t with
  | .agg n => k (partAgg n)
  | .one => k partOne
  | .bad => bad
def ldRow (ro : Bool) (ms : List (Nat × Nat × Option (List AV))) (m off : Nat) (pt : PartC) (k : KV) : Bool := obB (nth ms m) fun x => obB x.2.2 fun l => pt l off k
def ldCls : Cls → Nat → Nat → PartC → KV → Bool := Cls.rec (motive := fun _ => Nat → Nat → PartC → KV → Bool) ldRow (fun _ _ _ _ _ _ _ => false) (fun _ _ _ _ _ _ => false)
def ldGet : Option Cls → Nat → Nat → PartC → KV → Bool := Option.rec (motive := fun _ => Nat → Nat → PartC → KV → Bool) (fun _ _ _ _ => false) ldCls
def loadC (pt : PartC) : AV → St → KV → Bool := fun x st k => (AV.rec (motive_1 := fun _ => St → PartC → KV → Bool) (motive_2 := fun _ => Unit) ((fun _ => fun _ _ _ => false)) ((fun _ _ => fun _ _ _ => false)) ((fun _ => fun _ _ _ => false)) (fun _ _ _ => false) (fun c m off st pt k => ldGet (Tr.getQ st.h c) m off pt k) (fun _ _ _ => false) ((fun _ _ _ _ _ => fun _ _ _ => false)) ((fun _ _ _ _ _ => fun _ _ _ => false)) ((fun _ _ _ => fun _ _ _ => false)) ((fun _ _ _ _ _ => fun _ _ _ => false)) (fun _ _ _ => false) ((fun _ _ _ => fun _ _ _ => false)) (fun _ _ _ => false) ((fun _ => fun _ _ _ => false)) (fun _ _ _ => false) ((fun _ _ => fun _ _ _ => false)) ((fun _ _ => fun _ _ _ => false)) () (fun _ _ _ _ => ())) x st pt k
def faC (o : Nat) : AV → KV → Bool := fun x k => (AV.rec (motive_1 := fun _ => Nat → KV → Bool) (motive_2 := fun _ => Unit) ((fun _ => fun _ _ => false)) ((fun _ _ => fun _ _ => false)) ((fun _ => fun _ _ => false)) (fun _ _ => false) (fun c m off o k => sNat (Nat.add off o) fun z => k (.ptr c m z)) (fun _ _ => false) ((fun _ _ _ _ _ => fun _ _ => false)) ((fun _ _ _ _ _ => fun _ _ => false)) ((fun _ _ _ => fun _ _ => false)) ((fun _ _ _ _ _ => fun _ _ => false)) (fun _ _ => false) ((fun _ _ _ => fun _ _ => false)) (fun _ _ => false) ((fun _ => fun _ _ => false)) (fun _ _ => false) ((fun _ _ => fun _ _ => false)) ((fun _ _ => fun _ _ => false)) () (fun _ _ _ _ => ())) x o k
def ncC : AV → KV → Bool := (AV.rec (motive_1 := fun _ => KV → Bool) (motive_2 := fun _ => Unit) ((fun _ => fun _ => false)) ((fun _ _ => fun _ => false)) ((fun _ => fun _ => false)) (fun _ => false) (fun c m off k => k (.ptr c m off)) (fun _ => false) ((fun _ _ _ _ _ => fun _ => false)) ((fun _ _ _ _ _ => fun _ => false)) ((fun _ _ _ => fun _ => false)) (fun f a c _ _ k => k (.fn f a c)) (fun _ => false) ((fun _ _ _ => fun _ => false)) (fun _ => false) ((fun _ => fun _ => false)) (fun _ => false) ((fun _ _ => fun _ => false)) ((fun _ _ => fun _ => false)) () (fun _ _ _ _ => ()))
def storeC (P : Program) (t : TypeId) : AV → AV → St → (AV → St → Bool) → Bool := fun x y st k => obB (storeA P t x y st) fun r => k r.1 r.2
def allocC (P : Program) (t : TypeId) : St → (AV → St → Bool) → Bool := fun st k => obB (allocA P t st) fun r => k r.1 r.2
def iaC (P : Program) (t : TypeId) : AV → AV → KV → Bool := fun x y k => obB (indexAddrA P t x y) k
def ixC (P : Program) (t : TypeId) : AV → AV → KV → Bool := fun x y k => obB (indexA P t x y) k
def exC (i : Nat) : AV → KV → Bool := fun x k => (AV.rec (motive_1 := fun _ => Nat → KV → Bool) (motive_2 := fun _ => Unit) ((fun _ => fun _ _ => false)) ((fun _ _ => fun _ _ => false)) ((fun _ => fun _ _ => false)) (fun _ _ => false) ((fun _ _ _ => fun _ _ => false)) (fun _ _ => false) ((fun _ _ _ _ _ => fun _ _ => false)) ((fun _ _ _ _ _ => fun _ _ => false)) ((fun _ _ _ => fun _ _ => false)) ((fun _ _ _ _ _ => fun _ _ => false)) (fun _ _ => false) ((fun _ _ _ => fun _ _ => false)) (fun _ _ => false) ((fun _ => fun _ _ => false)) (fun _ _ => false) ((fun _ _ => fun _ _ => false)) (fun l _ i k => obB (nth l i) k) () (fun _ _ _ _ => ())) x i k
def lenC (P : Program) (ts : List TypeId) : AV → KV → Bool := fun x k => obB (lenA P ts x) k

/-! Two numbers. -/
def is64 {α : Type} (k : IntKind) (x z : α) : α := IntKind.rec (motive := fun _ => α → α → α) (fun _ z => z) (fun _ z => z) (fun _ z => z) (fun x _ => x) (fun _ z => z) (fun _ z => z) (fun _ z => z) (fun _ z => z) k x z
/-- Both are numbers of 64 bits: their own way; any other: the other. -/
def int2 (f : Int → Int → KV → Bool → Bool) : AV → AV → KV → Bool → Bool := fun x y k z =>
  (AV.rec (motive_1 := fun _ => AV → (Int → Int → KV → Bool → Bool) → KV → Bool → Bool) (motive_2 := fun _ => Unit) ((fun _ => fun _ _ _ z => z)) (fun j a y f k z => (AV.rec (motive_1 := fun _ => IntKind → Int → (Int → Int → KV → Bool → Bool) → KV → Bool → Bool) (motive_2 := fun _ => Unit) ((fun _ => fun _ _ _ _ z => z)) (fun i b j a f k z => is64 j (is64 i (f a b k z) z) z) ((fun _ => fun _ _ _ _ z => z)) (fun _ _ _ _ z => z) ((fun _ _ _ => fun _ _ _ _ z => z)) (fun _ _ _ _ z => z) ((fun _ _ _ _ _ => fun _ _ _ _ z => z)) ((fun _ _ _ _ _ => fun _ _ _ _ z => z)) ((fun _ _ _ => fun _ _ _ _ z => z)) ((fun _ _ _ _ _ => fun _ _ _ _ z => z)) (fun _ _ _ _ z => z) ((fun _ _ _ => fun _ _ _ _ z => z)) (fun _ _ _ _ z => z) ((fun _ => fun _ _ _ _ z => z)) (fun _ _ _ _ z => z) ((fun _ _ => fun _ _ _ _ z => z)) ((fun _ _ => fun _ _ _ _ z => z)) () (fun _ _ _ _ => ())) y j a f k z) ((fun _ => fun _ _ _ z => z)) (fun _ _ _ z => z) ((fun _ _ _ => fun _ _ _ z => z)) (fun _ _ _ z => z) ((fun _ _ _ _ _ => fun _ _ _ z => z)) ((fun _ _ _ _ _ => fun _ _ _ z => z)) ((fun _ _ _ => fun _ _ _ z => z)) ((fun _ _ _ _ _ => fun _ _ _ z => z)) (fun _ _ _ z => z) ((fun _ _ _ => fun _ _ _ z => z)) (fun _ _ _ z => z) ((fun _ => fun _ _ _ z => z)) (fun _ _ _ z => z) ((fun _ _ => fun _ _ _ z => z)) ((fun _ _ => fun _ _ _ z => z)) () (fun _ _ _ _ => ())) x y f k z
def eqlN : Int → Int → KV → Bool → Bool := fun a b k z => k (.bool (eqI a b))
def neqN : Int → Int → KV → Bool → Bool := fun a b k z => k (.bool (!eqI a b))
def lssN : Int → Int → KV → Bool → Bool := fun a b k z => k (.bool (ltI a b))
def leqN : Int → Int → KV → Bool → Bool := fun a b k z => k (.bool (!ltI b a))
def gtrN : Int → Int → KV → Bool → Bool := fun a b k z => k (.bool (ltI b a))
def geqN : Int → Int → KV → Bool → Bool := fun a b k z => k (.bool (!ltI a b))
def addN : Int → Int → KV → Bool → Bool := fun a b k z => Int.rec (motive := fun _ => Int → KV → Bool → Bool) (fun m b k z => Int.rec (motive := fun _ => Nat → KV → Bool → Bool) (fun n m k z => Bool.rec z (sNat (Nat.add m n) fun s => k (.int .i64 (Int.ofNat s))) (Nat.ble (Nat.add m n) i64most)) (fun _ _ _ z => z) b m k z) (fun _ _ _ z => z) a b k z
def binG (P : Program) (op : BinOp) (t : TypeId) : AV → AV → KV → Bool := fun x y k => obB (b2 P op t x y) k
def binN (f : Int → Int → KV → Bool → Bool) (g : AV → AV → KV → Bool) : AV → AV → KV → Bool := fun x y k => int2 f x y k (g x y k)
def binC (P : Program) (op : BinOp) (t : TypeId) : AV → AV → KV → Bool := match op with
  | .eql => binN eqlN (binG P op t)
  | .neq => binN neqN (binG P op t)
  | .lss => binN lssN (binG P op t)
  | .leq => binN leqN (binG P op t)
  | .gtr => binN gtrN (binG P op t)
  | .geq => binN geqN (binG P op t)
  | .add => binN addN (binG P op t)
  | _ => binG P op t

/-! What an operation becomes. -/
def innerC (P : Program) (G : Env) (o : Op) (p : Put) : CI := match o with
  | .move x => withG G x badCI fun g => ⟨mvR g p⟩
  | .assign x => withG G x badCI fun g => ⟨mvR g p⟩
  | .pick c a b => withG G c badCI fun f => withG G a badCI fun g => withG G b badCI fun h => ⟨pkR f g h p⟩
  | .alloc t => ⟨alR (allocC P t) p⟩
  | .load t a => withPart P t badCI fun pt => withG G a badCI fun g => ⟨ldR (loadC pt) g p⟩
  | .store t a v => withG G a badCI fun g => withG G v badCI fun h => ⟨stR (storeC P t) g h p⟩
  | .nilCheck x => withG G x badCI fun g => ⟨unR ncC g p⟩
  | .binOp op t x y _ => withG G x badCI fun g => withG G y badCI fun h => ⟨biR (binC P op t) g h p⟩
  | .fieldAddr t x f => withG G x badCI fun g => Option.rec badCI (fun off => sNat off fun off => ⟨unR (faC off) g p⟩) (fieldOff P t f)
  | .indexAddr t x i => withG G x badCI fun g => withG G i badCI fun h => ⟨biR (iaC P t) g h p⟩
  | .index t x i => withG G x badCI fun g => withG G i badCI fun h => ⟨biR (ixC P t) g h p⟩
  | .extract t i => withG G t badCI fun g => ⟨unR (exC i) g p⟩
  | .call c => (match c.callee with
    | .value f => (match f with
      | .func f => withGs G badCI c.args.toList fun gs => ⟨callR f gs p⟩
      | x => withG G x badCI fun g => withGs G badCI c.args.toList fun gs => ⟨callvR g gs p⟩)
    | .builtin b => (match b with
      | .len => (match c.args.toList with
        | x :: [] => withG G x badCI fun g => ⟨unR (lenC P c.argTypes.toList) g p⟩
        | _ => badCI)
      | _ => ⟨genR P G o p⟩)
    | _ => badCI)
  | _ => ⟨genR P G o p⟩
/-- Under its guard. -/
def guardC (ops : List Oper) (o : Oper) (p : Put) (c : CI) : CI := match o.guard with
  | none => c
  | some g => (match dstOf ops g.1 with
    | some t => withTmp t badCI fun gt _ => ⟨grR gt g.2 c.run p⟩
    | none => ⟨fun _ K T st => p T (.tup []) K st⟩)
def compC (P : Program) (G : Env) (N : Nat) (ops : List Oper) (o : Oper) : CI := withP N o.dst fun p => guardC ops o p (innerC P G o.op p)
/-- A region in the order of its text. -/
def regC (l : List CI) : CallC → KB → KB := List.rec (motive := fun _ => CallC → KB → KB) (fun _ K T st => K T st) (fun i _ ih cc K T st => i.run cc (ih cc K) T st) l

/-! A region that draws. -/
inductive DI where
  | plain (c : CI)
  | act (c : CI)
  | read (f : List St → Run)
def againC (pt : PartC) (x v : AV) (n : Nat) : List St → Bool := Nat.rec (fun _ => true) (fun _ ih l => List.rec false (fun st t _ => bif' (loadC pt x st fun u => eqV u v) (ih t) false) l) n
def rdR (pt : PartC) (n : Nat) (g : Q2 → AV) (p : Put) (sn : List St) : Run := fun _ K T st => loadC pt (g T) st fun v => Bool.rec false (p T v K st) (againC pt (g T) v n (List.rec [] (fun _ t _ => t) sn))
def compD (P : Program) (G : Env) (N : Nat) (ops : List Oper) (q : Nat × Oper × Nat) : DI :=
  bif' (Nat.beq q.2.2 0) (bif' (Nat.beq (kindA P q.2.1.op) 3) (.act (compC P G N ops q.2.1)) (.plain (compC P G N ops q.2.1)))
    (match q.2.1.op with
    | .load t a => .read fun sn => CI.run (withP N q.2.1.dst fun p => guardC ops q.2.1 p (withPart P t badCI fun pt => withG G a badCI fun g => ⟨rdR pt q.2.2 g p sn⟩))
    | _ => .plain badCI)
def dPlain (c : CI) : (List St → KB) → CallC → List St → KB := fun kk cc sn T st => c.run cc (kk sn) T st
def dAct (c : CI) : (List St → KB) → CallC → List St → KB := fun kk cc sn T st => c.run cc (fun T st => kk (st :: sn) T st) T st
def dRead (f : List St → Run) : (List St → KB) → CallC → List St → KB := fun kk cc sn T st => f sn cc (kk sn) T st
def runD (l : List DI) : CallC → KB → List St → KB := List.rec (motive := fun _ => CallC → KB → List St → KB) (fun _ K _ T st => K T st) (fun i _ ih cc K sn T st => DI.rec (motive := fun _ => (List St → KB) → CallC → List St → KB) dPlain dAct dRead i (ih cc K) cc sn T st) l

/-! Code. -/
inductive CC where
  | skip
  | reg (l : List CI)
  | regD (l : List DI)
  | seq (a b : CC)
  | cond (g : Q2 → AV) (a b : CC)
  | block (id : Nat) (b : CC)
  | loop (b : CC)
  | range (hd : AV → St → (Nat → (Nat → St → KV → Bool) → Bool) → Bool) (g : Q2 → AV) (p1 p2 : Put) (a b : CC)
  | exit (id : Nat)
  | ret
  | bad
def withPB {β : Type} (N : Nat) (t : Nat) (bad : β) (k : Put → β) : β := bif' (Nat.ble (t + 1) N) (withTmp t bad fun _ p => k p) bad
/-- How many rounds a range over a row from behind has; an element. -/
def hdN (n : Int) (k : Nat → Bool) : Bool := Int.rec (fun n => Bool.rec false (k n) (Nat.ble n i64most)) (fun _ => false) n
def elC (P : Program) (q : TypeId × TypeId) (x : AV) : Nat → St → KV → Bool := fun i st kv => obB (loadA P q.1 x st.h.get) fun s => obB (indexAddrA P q.1 s (.int .i64 (Int.ofNat i))) fun a => obB (loadA P q.2 a st.h.get) kv
def hdC (P : Program) (G : Env) : AV → St → (Nat → (Nat → St → KV → Bool) → Bool) → Bool := fun v st k => match v with
  | .fn f first cap => obB (G.b f) fun q => (match first with
    | [] => (match cap with
      | x :: [] => obB (loadA P q.1 x st.h.get) fun s => obB (lenA P [q.1] s) fun n => (match n with
        | .int _ n => hdN n fun n => k n (elC P q x)
        | _ => false)
      | _ => false)
    | _ => false)
  | _ => false
def compR (P : Program) (G : Env) (N : Nat) (g : Operand) (ps : List Tmp) (pl : Bool) (a b : CC) : CC := match ps with
  | x :: y :: [] => bif' pl (withG G g .bad fun gg => withPB N x .bad fun p1 => withPB N y .bad fun p2 => .range (hdC P G) gg p1 p2 a b) .bad
  | _ => .bad
def compK (P : Program) (G : Env) (N : Nat) (c : Code) : CC := Code.rec (motive := fun _ => CC)
  .skip
  (fun _ ops draw => bif' draw (Option.rec .bad (fun pl => .regD (mapL (compD P G N ops.toList) pl)) (planOf P ops.toList)) (.reg (mapL (compC P G N ops.toList) ops.toList)))
  (fun _ _ a b => .seq a b)
  (fun c _ _ a b => withG G c .bad fun g => .cond g a b)
  (fun id _ f => .block id f)
  (fun _ f => .loop f)
  (fun g ps x y a b => compR P G N g ps.toList (bif' (plainC x) (plainC y) false) a b)
  (fun id => .exit id)
  (fun _ _ => .bad)
  (fun _ => .skip)
  (fun _ => .bad)
  .ret
  (fun _ => .bad)
  c
def condC : AV → KB → KB → Q2 → St → Bool := (AV.rec (motive_1 := fun _ => KB → KB → Q2 → St → Bool) (motive_2 := fun _ => Unit) (fun b x y T st => Bool.rec (y T st) (x T st) b) ((fun _ _ => fun _ _ _ _ => false)) ((fun _ => fun _ _ _ _ => false)) (fun _ _ _ _ => false) ((fun _ _ _ => fun _ _ _ _ => false)) (fun _ _ _ _ => false) ((fun _ _ _ _ _ => fun _ _ _ _ => false)) ((fun _ _ _ _ _ => fun _ _ _ _ => false)) ((fun _ _ _ => fun _ _ _ _ => false)) ((fun _ _ _ _ _ => fun _ _ _ _ => false)) (fun _ _ _ _ => false) ((fun _ _ _ => fun _ _ _ _ => false)) (fun _ _ _ _ => false) ((fun _ => fun _ _ _ _ => false)) (fun _ _ _ _ => false) ((fun _ _ => fun _ _ _ _ => false)) ((fun _ _ => fun _ _ _ _ => false)) () (fun _ _ _ _ => ()))
abbrev CodeB := CallC → (Nat → KB) → KB → KB → KB
def cSkip : CodeB := fun _ _ _ K T st => K T st
def cReg (l : List CI) : CodeB := fun cc _ _ K T st => regC l cc K T st
def cRegD (l : List DI) : CodeB := fun cc _ _ K T st => runD l cc K [st] T st
def cSeq (_ _ : CC) (f g : CodeB) : CodeB := fun cc E R K T st => f cc E R (g cc E R K) T st
def cCond (g : Q2 → AV) (_ _ : CC) (a b : CodeB) : CodeB := fun cc E R K T st => condC (g T) (a cc E R K) (b cc E R K) T st
def cBlock (id : Nat) (_ : CC) (f : CodeB) : CodeB := fun cc E R K T st => f cc (fun i => bif' (Nat.beq i id) K (E i)) R K T st
def cLoop (L : Nat) (_ : CC) (f : CodeB) : CodeB := fun cc E R K T st => Nat.rec (motive := fun _ => KB) (fun _ _ => false) (fun _ ih => f cc E R ih) L T st
def cRange (hd : AV → St → (Nat → (Nat → St → KV → Bool) → Bool) → Bool) (g : Q2 → AV) (p1 p2 : Put) (_ _ : CC) (fa fb : CodeB) : CodeB := fun cc E R K T st => hd (g T) st fun n el =>
  Nat.rec (motive := fun _ => St → Bool) (fun st => K T st) (fun i ih st => el i st fun v => p1 T (.int .i64 (Int.ofNat i)) (fun T1 st => p2 T1 v (fun T2 st => fa cc (fun _ _ _ => false) (fun _ _ => false) (fun T3 st => fb cc (fun id _ st => E id T st) (fun _ st => R T st) (fun _ st => tl (ih st)) T3 st) T2 st) st) st) n st
def cExit (id : Nat) : CodeB := fun _ E _ _ T st => E id T st
def cRet : CodeB := fun _ _ R _ T st => R T st
def cBad : CodeB := fun _ _ _ _ _ _ => false
def runK (L : Nat) (c : CC) : CodeB := CC.rec (motive := fun _ => CodeB) cSkip cReg cRegD cSeq cCond cBlock (cLoop L) cRange cExit cRet cBad c

/-! Functions. -/
structure FN where
  code : CC
  n : Nat
  res : List ResultVar
def compF (P : Program) (G : Env) (f : FuncId) : Option FN := ob (fnOf P f) fun q => need (Nat.ble q.2.1 256) (some ⟨compK P G q.2.1 q.1, q.2.1, q.2.2⟩)
def q0 : AV := .tup []
def Q1.zero : Q1 := ⟨q0, q0, q0, q0, q0, q0, q0, q0, q0, q0, q0, q0, q0, q0, q0, q0⟩
def Q2.zero : Q2 := ⟨.zero, .zero, .zero, .zero, .zero, .zero, .zero, .zero, .zero, .zero, .zero, .zero, .zero, .zero, .zero, .zero⟩
/-- Arguments into the first temporaries. -/
structure PutBox where
  put : Put
def putAt (t : Nat) : PutBox := withTmp t ⟨fun _ _ _ _ => false⟩ fun _ p => ⟨p⟩
def argsC (l : List AV) : Nat → Q2 → KB → St → Bool := List.rec (motive := fun _ => Nat → Q2 → KB → St → Bool) (fun _ T K st => K T st) (fun v _ ih i T K st => (putAt i).put T v (fun T st => ih (Nat.succ i) T K st) st) l
def resC (P : Program) (T : Q2) (st : St) (r : ResultVar) (k : KV) : Bool := match r with
  | .tmp t => k (getN t T)
  | .cell a t => obB (loadA P t (getN a T) st.h.get) k
def resultsC (P : Program) (l : List ResultVar) (T : Q2) (st : St) : (List AV → Bool) → Bool := List.rec (motive := fun _ => (List AV → Bool) → Bool) (fun k => k []) (fun r _ ih k => resC P T st r fun v => ih fun l => k (v :: l)) l
def endK (P : Program) (res : List ResultVar) (k : AV → St → Bool) : KB := fun T st => resultsC P res T st fun vs => k (List.rec (.tup []) (fun v t _ => List.rec v (fun _ _ _ => .tup vs) t) vs) st
def callB (P : Program) (L : Nat) (q : FN) (cc : CallC) : List AV → St → (AV → St → Bool) → Bool := fun args st k => Bool.rec false (argsC args 0 .zero (fun T st => runK L q.code cc (fun _ _ _ => false) (endK P q.res k) (endK P q.res k) T st) st) (Nat.ble (lenL args) q.n)
/-- A call. -/
def callC (P : Program) (G : Env) (L : Nat) (fuel : Nat) : CallC := Nat.rec (motive := fun _ => CallC) (fun _ _ _ _ => false) (fun _ ih f args st k => Option.rec (obB (compF P G f) fun q => tl (callB P L q ih args st k)) (fun sm => obB (sm args st) fun r => k r.1 r.2) (G.s f)) fuel
def truthC : AV → St → Bool := fun v _ => (AV.rec (motive_1 := fun _ => Bool) (motive_2 := fun _ => Unit) (fun b => b) ((fun _ _ => false)) ((fun _ => false)) (false) ((fun _ _ _ => false)) (false) ((fun _ _ _ _ _ => false)) ((fun _ _ _ _ _ => false)) ((fun _ _ _ => false)) ((fun _ _ _ _ _ => false)) (false) ((fun _ _ _ => false)) (false) ((fun _ => false)) (false) ((fun _ _ => false)) ((fun _ _ => false)) () (fun _ _ _ _ => ())) v

end
end Go.Proofs.Ytmjnbdkjekdkgaa
