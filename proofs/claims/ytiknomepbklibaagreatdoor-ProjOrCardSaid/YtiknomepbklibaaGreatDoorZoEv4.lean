/-
  Several texts in one: XEvO, XEvP, XEvR (the swift reckoner).
-/
import Derived.Test.YtiknomepbklibaaGreatDoorZoEv3
section
/-
  A swift reckoner: what the reckoner of EvJ does, with what does not change reckoned once. Definitions. (printed by gen_evo.py)
-/
namespace Go.Proofs.YtiknomepbklibaaGreatDoor
open Go
set_option linter.unusedVariables false
set_option maxRecDepth 100000

/-! Where temporaries lie: sixteen rows of sixteen. -/
structure Q1 where
 a0 : AV
 a1 : AV
 a2 : AV
 a3 : AV
 a4 : AV
 a5 : AV
 a6 : AV
 a7 : AV
 a8 : AV
 a9 : AV
 a10 : AV
 a11 : AV
 a12 : AV
 a13 : AV
 a14 : AV
 a15 : AV
structure Q2 where
 a0 : Q1
 a1 : Q1
 a2 : Q1
 a3 : Q1
 a4 : Q1
 a5 : Q1
 a6 : Q1
 a7 : Q1
 a8 : Q1
 a9 : Q1
 a10 : Q1
 a11 : Q1
 a12 : Q1
 a13 : Q1
 a14 : Q1
 a15 : Q1
inductive Dg where
 | d0
 | d1
 | d2
 | d3
 | d4
 | d5
 | d6
 | d7
 | d8
 | d9
 | d10
 | d11
 | d12
 | d13
 | d14
 | d15

noncomputable section
def Q1.u0 : Q1 → AV → (Q1 → Bool) → Bool := fun q v k => (Q1.rec (motive := fun _ => AV → (Q1 → Bool) → Bool) (fun x0 x1 x2 x3 x4 x5 x6 x7 x8 x9 x10 x11 x12 x13 x14 x15 v k => k (Q1.mk v x1 x2 x3 x4 x5 x6 x7 x8 x9 x10 x11 x12 x13 x14 x15))) q v k
def Q1.u1 : Q1 → AV → (Q1 → Bool) → Bool := fun q v k => (Q1.rec (motive := fun _ => AV → (Q1 → Bool) → Bool) (fun x0 x1 x2 x3 x4 x5 x6 x7 x8 x9 x10 x11 x12 x13 x14 x15 v k => k (Q1.mk x0 v x2 x3 x4 x5 x6 x7 x8 x9 x10 x11 x12 x13 x14 x15))) q v k
def Q1.u2 : Q1 → AV → (Q1 → Bool) → Bool := fun q v k => (Q1.rec (motive := fun _ => AV → (Q1 → Bool) → Bool) (fun x0 x1 x2 x3 x4 x5 x6 x7 x8 x9 x10 x11 x12 x13 x14 x15 v k => k (Q1.mk x0 x1 v x3 x4 x5 x6 x7 x8 x9 x10 x11 x12 x13 x14 x15))) q v k
def Q1.u3 : Q1 → AV → (Q1 → Bool) → Bool := fun q v k => (Q1.rec (motive := fun _ => AV → (Q1 → Bool) → Bool) (fun x0 x1 x2 x3 x4 x5 x6 x7 x8 x9 x10 x11 x12 x13 x14 x15 v k => k (Q1.mk x0 x1 x2 v x4 x5 x6 x7 x8 x9 x10 x11 x12 x13 x14 x15))) q v k
def Q1.u4 : Q1 → AV → (Q1 → Bool) → Bool := fun q v k => (Q1.rec (motive := fun _ => AV → (Q1 → Bool) → Bool) (fun x0 x1 x2 x3 x4 x5 x6 x7 x8 x9 x10 x11 x12 x13 x14 x15 v k => k (Q1.mk x0 x1 x2 x3 v x5 x6 x7 x8 x9 x10 x11 x12 x13 x14 x15))) q v k
def Q1.u5 : Q1 → AV → (Q1 → Bool) → Bool := fun q v k => (Q1.rec (motive := fun _ => AV → (Q1 → Bool) → Bool) (fun x0 x1 x2 x3 x4 x5 x6 x7 x8 x9 x10 x11 x12 x13 x14 x15 v k => k (Q1.mk x0 x1 x2 x3 x4 v x6 x7 x8 x9 x10 x11 x12 x13 x14 x15))) q v k
def Q1.u6 : Q1 → AV → (Q1 → Bool) → Bool := fun q v k => (Q1.rec (motive := fun _ => AV → (Q1 → Bool) → Bool) (fun x0 x1 x2 x3 x4 x5 x6 x7 x8 x9 x10 x11 x12 x13 x14 x15 v k => k (Q1.mk x0 x1 x2 x3 x4 x5 v x7 x8 x9 x10 x11 x12 x13 x14 x15))) q v k
def Q1.u7 : Q1 → AV → (Q1 → Bool) → Bool := fun q v k => (Q1.rec (motive := fun _ => AV → (Q1 → Bool) → Bool) (fun x0 x1 x2 x3 x4 x5 x6 x7 x8 x9 x10 x11 x12 x13 x14 x15 v k => k (Q1.mk x0 x1 x2 x3 x4 x5 x6 v x8 x9 x10 x11 x12 x13 x14 x15))) q v k
def Q1.u8 : Q1 → AV → (Q1 → Bool) → Bool := fun q v k => (Q1.rec (motive := fun _ => AV → (Q1 → Bool) → Bool) (fun x0 x1 x2 x3 x4 x5 x6 x7 x8 x9 x10 x11 x12 x13 x14 x15 v k => k (Q1.mk x0 x1 x2 x3 x4 x5 x6 x7 v x9 x10 x11 x12 x13 x14 x15))) q v k
def Q1.u9 : Q1 → AV → (Q1 → Bool) → Bool := fun q v k => (Q1.rec (motive := fun _ => AV → (Q1 → Bool) → Bool) (fun x0 x1 x2 x3 x4 x5 x6 x7 x8 x9 x10 x11 x12 x13 x14 x15 v k => k (Q1.mk x0 x1 x2 x3 x4 x5 x6 x7 x8 v x10 x11 x12 x13 x14 x15))) q v k
def Q1.u10 : Q1 → AV → (Q1 → Bool) → Bool := fun q v k => (Q1.rec (motive := fun _ => AV → (Q1 → Bool) → Bool) (fun x0 x1 x2 x3 x4 x5 x6 x7 x8 x9 x10 x11 x12 x13 x14 x15 v k => k (Q1.mk x0 x1 x2 x3 x4 x5 x6 x7 x8 x9 v x11 x12 x13 x14 x15))) q v k
def Q1.u11 : Q1 → AV → (Q1 → Bool) → Bool := fun q v k => (Q1.rec (motive := fun _ => AV → (Q1 → Bool) → Bool) (fun x0 x1 x2 x3 x4 x5 x6 x7 x8 x9 x10 x11 x12 x13 x14 x15 v k => k (Q1.mk x0 x1 x2 x3 x4 x5 x6 x7 x8 x9 x10 v x12 x13 x14 x15))) q v k
def Q1.u12 : Q1 → AV → (Q1 → Bool) → Bool := fun q v k => (Q1.rec (motive := fun _ => AV → (Q1 → Bool) → Bool) (fun x0 x1 x2 x3 x4 x5 x6 x7 x8 x9 x10 x11 x12 x13 x14 x15 v k => k (Q1.mk x0 x1 x2 x3 x4 x5 x6 x7 x8 x9 x10 x11 v x13 x14 x15))) q v k
def Q1.u13 : Q1 → AV → (Q1 → Bool) → Bool := fun q v k => (Q1.rec (motive := fun _ => AV → (Q1 → Bool) → Bool) (fun x0 x1 x2 x3 x4 x5 x6 x7 x8 x9 x10 x11 x12 x13 x14 x15 v k => k (Q1.mk x0 x1 x2 x3 x4 x5 x6 x7 x8 x9 x10 x11 x12 v x14 x15))) q v k
def Q1.u14 : Q1 → AV → (Q1 → Bool) → Bool := fun q v k => (Q1.rec (motive := fun _ => AV → (Q1 → Bool) → Bool) (fun x0 x1 x2 x3 x4 x5 x6 x7 x8 x9 x10 x11 x12 x13 x14 x15 v k => k (Q1.mk x0 x1 x2 x3 x4 x5 x6 x7 x8 x9 x10 x11 x12 x13 v x15))) q v k
def Q1.u15 : Q1 → AV → (Q1 → Bool) → Bool := fun q v k => (Q1.rec (motive := fun _ => AV → (Q1 → Bool) → Bool) (fun x0 x1 x2 x3 x4 x5 x6 x7 x8 x9 x10 x11 x12 x13 x14 x15 v k => k (Q1.mk x0 x1 x2 x3 x4 x5 x6 x7 x8 x9 x10 x11 x12 x13 x14 v))) q v k
def Q1.at (d : Dg) : Q1 → AV := Dg.rec (motive := fun _ => Q1 → AV) Q1.a0 Q1.a1 Q1.a2 Q1.a3 Q1.a4 Q1.a5 Q1.a6 Q1.a7 Q1.a8 Q1.a9 Q1.a10 Q1.a11 Q1.a12 Q1.a13 Q1.a14 Q1.a15 d
def Q1.up (d : Dg) : Q1 → AV → (Q1 → Bool) → Bool := Dg.rec (motive := fun _ => Q1 → AV → (Q1 → Bool) → Bool) Q1.u0 Q1.u1 Q1.u2 Q1.u3 Q1.u4 Q1.u5 Q1.u6 Q1.u7 Q1.u8 Q1.u9 Q1.u10 Q1.u11 Q1.u12 Q1.u13 Q1.u14 Q1.u15 d
/-- The same, each digit's own. -/
def Q1.withA {β : Type} (d : Dg) (k : (Q1 → AV) → (Q1 → AV → (Q1 → Bool) → Bool) → β) : β := Dg.rec (motive := fun _ => β) (k Q1.a0 Q1.u0) (k Q1.a1 Q1.u1) (k Q1.a2 Q1.u2) (k Q1.a3 Q1.u3) (k Q1.a4 Q1.u4) (k Q1.a5 Q1.u5) (k Q1.a6 Q1.u6) (k Q1.a7 Q1.u7) (k Q1.a8 Q1.u8) (k Q1.a9 Q1.u9) (k Q1.a10 Q1.u10) (k Q1.a11 Q1.u11) (k Q1.a12 Q1.u12) (k Q1.a13 Q1.u13) (k Q1.a14 Q1.u14) (k Q1.a15 Q1.u15) d
theorem Q1.withA_eq {β : Type} (d : Dg) (k : (Q1 → AV) → (Q1 → AV → (Q1 → Bool) → Bool) → β) : Q1.withA d k = k (Q1.at d) (Q1.up d) := by cases d <;> rfl
theorem Q1.up_spec (d : Dg) (q : Q1) (v : AV) (k : Q1 → Bool) : ∃ q', Q1.up d q v k = k q' ∧ Q1.at d q' = v ∧ ∀ e, e ≠ d → Q1.at e q' = Q1.at e q := by
 cases d <;> exact ⟨_, rfl, rfl, fun e he => by cases e <;> first | rfl | exact absurd rfl he⟩
def Q2.u0 : Q2 → Q1 → (Q2 → Bool) → Bool := fun q v k => (Q2.rec (motive := fun _ => Q1 → (Q2 → Bool) → Bool) (fun x0 x1 x2 x3 x4 x5 x6 x7 x8 x9 x10 x11 x12 x13 x14 x15 v k => k (Q2.mk v x1 x2 x3 x4 x5 x6 x7 x8 x9 x10 x11 x12 x13 x14 x15))) q v k
def Q2.u1 : Q2 → Q1 → (Q2 → Bool) → Bool := fun q v k => (Q2.rec (motive := fun _ => Q1 → (Q2 → Bool) → Bool) (fun x0 x1 x2 x3 x4 x5 x6 x7 x8 x9 x10 x11 x12 x13 x14 x15 v k => k (Q2.mk x0 v x2 x3 x4 x5 x6 x7 x8 x9 x10 x11 x12 x13 x14 x15))) q v k
def Q2.u2 : Q2 → Q1 → (Q2 → Bool) → Bool := fun q v k => (Q2.rec (motive := fun _ => Q1 → (Q2 → Bool) → Bool) (fun x0 x1 x2 x3 x4 x5 x6 x7 x8 x9 x10 x11 x12 x13 x14 x15 v k => k (Q2.mk x0 x1 v x3 x4 x5 x6 x7 x8 x9 x10 x11 x12 x13 x14 x15))) q v k
def Q2.u3 : Q2 → Q1 → (Q2 → Bool) → Bool := fun q v k => (Q2.rec (motive := fun _ => Q1 → (Q2 → Bool) → Bool) (fun x0 x1 x2 x3 x4 x5 x6 x7 x8 x9 x10 x11 x12 x13 x14 x15 v k => k (Q2.mk x0 x1 x2 v x4 x5 x6 x7 x8 x9 x10 x11 x12 x13 x14 x15))) q v k
def Q2.u4 : Q2 → Q1 → (Q2 → Bool) → Bool := fun q v k => (Q2.rec (motive := fun _ => Q1 → (Q2 → Bool) → Bool) (fun x0 x1 x2 x3 x4 x5 x6 x7 x8 x9 x10 x11 x12 x13 x14 x15 v k => k (Q2.mk x0 x1 x2 x3 v x5 x6 x7 x8 x9 x10 x11 x12 x13 x14 x15))) q v k
def Q2.u5 : Q2 → Q1 → (Q2 → Bool) → Bool := fun q v k => (Q2.rec (motive := fun _ => Q1 → (Q2 → Bool) → Bool) (fun x0 x1 x2 x3 x4 x5 x6 x7 x8 x9 x10 x11 x12 x13 x14 x15 v k => k (Q2.mk x0 x1 x2 x3 x4 v x6 x7 x8 x9 x10 x11 x12 x13 x14 x15))) q v k
def Q2.u6 : Q2 → Q1 → (Q2 → Bool) → Bool := fun q v k => (Q2.rec (motive := fun _ => Q1 → (Q2 → Bool) → Bool) (fun x0 x1 x2 x3 x4 x5 x6 x7 x8 x9 x10 x11 x12 x13 x14 x15 v k => k (Q2.mk x0 x1 x2 x3 x4 x5 v x7 x8 x9 x10 x11 x12 x13 x14 x15))) q v k
def Q2.u7 : Q2 → Q1 → (Q2 → Bool) → Bool := fun q v k => (Q2.rec (motive := fun _ => Q1 → (Q2 → Bool) → Bool) (fun x0 x1 x2 x3 x4 x5 x6 x7 x8 x9 x10 x11 x12 x13 x14 x15 v k => k (Q2.mk x0 x1 x2 x3 x4 x5 x6 v x8 x9 x10 x11 x12 x13 x14 x15))) q v k
def Q2.u8 : Q2 → Q1 → (Q2 → Bool) → Bool := fun q v k => (Q2.rec (motive := fun _ => Q1 → (Q2 → Bool) → Bool) (fun x0 x1 x2 x3 x4 x5 x6 x7 x8 x9 x10 x11 x12 x13 x14 x15 v k => k (Q2.mk x0 x1 x2 x3 x4 x5 x6 x7 v x9 x10 x11 x12 x13 x14 x15))) q v k
def Q2.u9 : Q2 → Q1 → (Q2 → Bool) → Bool := fun q v k => (Q2.rec (motive := fun _ => Q1 → (Q2 → Bool) → Bool) (fun x0 x1 x2 x3 x4 x5 x6 x7 x8 x9 x10 x11 x12 x13 x14 x15 v k => k (Q2.mk x0 x1 x2 x3 x4 x5 x6 x7 x8 v x10 x11 x12 x13 x14 x15))) q v k
def Q2.u10 : Q2 → Q1 → (Q2 → Bool) → Bool := fun q v k => (Q2.rec (motive := fun _ => Q1 → (Q2 → Bool) → Bool) (fun x0 x1 x2 x3 x4 x5 x6 x7 x8 x9 x10 x11 x12 x13 x14 x15 v k => k (Q2.mk x0 x1 x2 x3 x4 x5 x6 x7 x8 x9 v x11 x12 x13 x14 x15))) q v k
def Q2.u11 : Q2 → Q1 → (Q2 → Bool) → Bool := fun q v k => (Q2.rec (motive := fun _ => Q1 → (Q2 → Bool) → Bool) (fun x0 x1 x2 x3 x4 x5 x6 x7 x8 x9 x10 x11 x12 x13 x14 x15 v k => k (Q2.mk x0 x1 x2 x3 x4 x5 x6 x7 x8 x9 x10 v x12 x13 x14 x15))) q v k
def Q2.u12 : Q2 → Q1 → (Q2 → Bool) → Bool := fun q v k => (Q2.rec (motive := fun _ => Q1 → (Q2 → Bool) → Bool) (fun x0 x1 x2 x3 x4 x5 x6 x7 x8 x9 x10 x11 x12 x13 x14 x15 v k => k (Q2.mk x0 x1 x2 x3 x4 x5 x6 x7 x8 x9 x10 x11 v x13 x14 x15))) q v k
def Q2.u13 : Q2 → Q1 → (Q2 → Bool) → Bool := fun q v k => (Q2.rec (motive := fun _ => Q1 → (Q2 → Bool) → Bool) (fun x0 x1 x2 x3 x4 x5 x6 x7 x8 x9 x10 x11 x12 x13 x14 x15 v k => k (Q2.mk x0 x1 x2 x3 x4 x5 x6 x7 x8 x9 x10 x11 x12 v x14 x15))) q v k
def Q2.u14 : Q2 → Q1 → (Q2 → Bool) → Bool := fun q v k => (Q2.rec (motive := fun _ => Q1 → (Q2 → Bool) → Bool) (fun x0 x1 x2 x3 x4 x5 x6 x7 x8 x9 x10 x11 x12 x13 x14 x15 v k => k (Q2.mk x0 x1 x2 x3 x4 x5 x6 x7 x8 x9 x10 x11 x12 x13 v x15))) q v k
def Q2.u15 : Q2 → Q1 → (Q2 → Bool) → Bool := fun q v k => (Q2.rec (motive := fun _ => Q1 → (Q2 → Bool) → Bool) (fun x0 x1 x2 x3 x4 x5 x6 x7 x8 x9 x10 x11 x12 x13 x14 x15 v k => k (Q2.mk x0 x1 x2 x3 x4 x5 x6 x7 x8 x9 x10 x11 x12 x13 x14 v))) q v k
def Q2.at (d : Dg) : Q2 → Q1 := Dg.rec (motive := fun _ => Q2 → Q1) Q2.a0 Q2.a1 Q2.a2 Q2.a3 Q2.a4 Q2.a5 Q2.a6 Q2.a7 Q2.a8 Q2.a9 Q2.a10 Q2.a11 Q2.a12 Q2.a13 Q2.a14 Q2.a15 d
def Q2.up (d : Dg) : Q2 → Q1 → (Q2 → Bool) → Bool := Dg.rec (motive := fun _ => Q2 → Q1 → (Q2 → Bool) → Bool) Q2.u0 Q2.u1 Q2.u2 Q2.u3 Q2.u4 Q2.u5 Q2.u6 Q2.u7 Q2.u8 Q2.u9 Q2.u10 Q2.u11 Q2.u12 Q2.u13 Q2.u14 Q2.u15 d
/-- The same, each digit's own. -/
def Q2.withA {β : Type} (d : Dg) (k : (Q2 → Q1) → (Q2 → Q1 → (Q2 → Bool) → Bool) → β) : β := Dg.rec (motive := fun _ => β) (k Q2.a0 Q2.u0) (k Q2.a1 Q2.u1) (k Q2.a2 Q2.u2) (k Q2.a3 Q2.u3) (k Q2.a4 Q2.u4) (k Q2.a5 Q2.u5) (k Q2.a6 Q2.u6) (k Q2.a7 Q2.u7) (k Q2.a8 Q2.u8) (k Q2.a9 Q2.u9) (k Q2.a10 Q2.u10) (k Q2.a11 Q2.u11) (k Q2.a12 Q2.u12) (k Q2.a13 Q2.u13) (k Q2.a14 Q2.u14) (k Q2.a15 Q2.u15) d
theorem Q2.withA_eq {β : Type} (d : Dg) (k : (Q2 → Q1) → (Q2 → Q1 → (Q2 → Bool) → Bool) → β) : Q2.withA d k = k (Q2.at d) (Q2.up d) := by cases d <;> rfl
theorem Q2.up_spec (d : Dg) (q : Q2) (v : Q1) (k : Q2 → Bool) : ∃ q', Q2.up d q v k = k q' ∧ Q2.at d q' = v ∧ ∀ e, e ≠ d → Q2.at e q' = Q2.at e q := by
 cases d <;> exact ⟨_, rfl, rfl, fun e he => by cases e <;> first | rfl | exact absurd rfl he⟩

def dgOf (n : Nat) : Option Dg := match n with
 | 0 => some .d0
 | 1 => some .d1
 | 2 => some .d2
 | 3 => some .d3
 | 4 => some .d4
 | 5 => some .d5
 | 6 => some .d6
 | 7 => some .d7
 | 8 => some .d8
 | 9 => some .d9
 | 10 => some .d10
 | 11 => some .d11
 | 12 => some .d12
 | 13 => some .d13
 | 14 => some .d14
 | 15 => some .d15
 | _ => none
def Dg.num (d : Dg) : Nat := match d with
 | .d0 => 0
 | .d1 => 1
 | .d2 => 2
 | .d3 => 3
 | .d4 => 4
 | .d5 => 5
 | .d6 => 6
 | .d7 => 7
 | .d8 => 8
 | .d9 => 9
 | .d10 => 10
 | .d11 => 11
 | .d12 => 12
 | .d13 => 13
 | .d14 => 14
 | .d15 => 15
theorem dgOf_eq {n : Nat} {d : Dg} (h : dgOf n = some d) : n = d.num := by
 unfold dgOf at h
 split at h <;> first | (injection h with h; subst h; rfl) | cases h
theorem Dg.num_inj {d e : Dg} (h : d.num = e.num) : d = e := by cases d <;> cases e <;> first | rfl | (simp [Dg.num] at h; done)

abbrev KB := Q2 → St → Bool
abbrev CallC := FuncId → List AV → St → (AV → St → Bool) → Bool
abbrev Run := CallC → KB → Q2 → St → Bool
abbrev Put := Q2 → AV → KB → St → Bool
abbrev KV := AV → Bool
structure CI where
 run : Run
def getN (t : Nat) (q : Q2) : AV := match dgOf (t / 16) with
 | some i => (match dgOf (t % 16) with
  | some j => Q1.at j (Q2.at i q)
  | none => .tup [])
 | none => .tup []
def getT (g1 : Q1 → AV) (g2 : Q2 → Q1) : Q2 → AV := fun T => g1 (g2 T)
/-- A value that is known by its head. -/
def forceV : AV → KV → Bool := AV.rec (motive_1 := fun _ => KV → Bool) (motive_2 := fun _ => Unit) (fun b k => k (.bool b)) (fun j n k => k (.int j n)) (fun l k => k (.str l)) (fun k => k .nilp) (fun c m o k => k (.ptr c m o)) (fun k => k .nils) (fun c m o l z k => k (.sl c m o l z)) (fun c m o a z k => k (.slz c m o a z)) (fun b o s k => k (.sl0 b o s)) (fun f a c _ _ k => k (.fn f a c)) (fun k => k .nilf) (fun t v _ k => k (.ifc t v)) (fun k => k .nili) (fun c k => k (.mp c)) (fun k => k .nilm) (fun l _ k => k (.agg l)) (fun l _ k => k (.tup l)) () (fun _ _ _ _ => ())
theorem forceV_eq (v : AV) (k : KV) : forceV v k = k v := by cases v <;> rfl
def putT (u1 : Q1 → AV → (Q1 → Bool) → Bool) (g2 : Q2 → Q1) (u2 : Q2 → Q1 → (Q2 → Bool) → Bool) : Put := fun T v K st => forceV v fun v => u1 (g2 T) v fun q => u2 T q fun T => K T st
def withTmp {β : Type} (t : Nat) (bad : β) (k : (Q2 → AV) → Put → β) : β := match dgOf (t / 16) with
 | some i => (match dgOf (t % 16) with
  | some j => Q1.withA j fun g1 u1 => Q2.withA i fun g2 u2 => k (getT g1 g2) (putT u1 g2 u2)
  | none => bad)
 | none => bad
def badRun : Run := fun _ _ _ _ => false
def badCI : CI := ⟨badRun⟩
def withG {β : Type} (G : Env) (x : Operand) (bad : β) (k : (Q2 → AV) → β) : β := match x with
 | .tmp t => withTmp t bad fun g _ => k g
 | .const v => Option.rec bad (fun a => k (fun _ => a)) (ofConst v)
 | .global g => bif' (G.g g) (k (fun _ => .ptr g 0 0)) bad
 | .func f => k (fun _ => .fn f [] [])
def withP (N : Nat) (d : Option Nat) (k : Put → CI) : CI := match d with
 | none => k (fun T _ K st => K T st)
 | some t => bif' (Nat.ble (t + 1) N) (withTmp t badCI fun _ p => k p) badCI
def withGs {β : Type} (G : Env) (bad : β) (l : List Operand) : (List (Q2 → AV) → β) → β := List.rec (fun k => k []) (fun x _ ih k => withG G x bad fun g => ih fun gs => k (g :: gs)) l
/-- All values of a row of operands. -/
def rowG (gs : List (Q2 → AV)) : Q2 → (List AV → Bool) → Bool := List.rec (fun _ k => k []) (fun g _ ih T k => ih T fun l => k (g T :: l)) gs
def opC (G : Env) (q : Q2) (x : Operand) : Option AV := match x with
 | .tmp t => some (getN t q)
 | .const v => ofConst v
 | .global g => need (G.g g) (some (.ptr g 0 0))
 | .func f => some (.fn f [] [])
/-- Of an option, or false. -/
def obB {α : Type} (x : Option α) (k : α → Bool) : Bool := Option.rec false k x

/-! Operations. -/
def mvR (g : Q2 → AV) (p : Put) : Run := fun _ K T st => p T (g T) K st
def unR (f : AV → KV → Bool) (g : Q2 → AV) (p : Put) : Run := fun _ K T st => f (g T) fun v => p T v K st
def biR (f : AV → AV → KV → Bool) (g h : Q2 → AV) (p : Put) : Run := fun _ K T st => f (g T) (h T) fun v => p T v K st
def ldR (f : AV → St → KV → Bool) (g : Q2 → AV) (p : Put) : Run := fun _ K T st => f (g T) st fun v => p T v K st
def stR (f : AV → AV → St → (AV → St → Bool) → Bool) (g h : Q2 → AV) (p : Put) : Run := fun _ K T st => f (g T) (h T) st fun v st => p T v K st
def alR (f : St → (AV → St → Bool) → Bool) (p : Put) : Run := fun _ K T st => f st fun v st => p T v K st
def pickC : AV → AV → AV → KV → Bool := (AV.rec (motive_1 := fun _ => AV → AV → KV → Bool) (motive_2 := fun _ => Unit) (fun b x y k => Bool.rec (k y) (k x) b) ((fun _ _ => fun _ _ _ => false)) ((fun _ => fun _ _ _ => false)) (fun _ _ _ => false) ((fun _ _ _ => fun _ _ _ => false)) (fun _ _ _ => false) ((fun _ _ _ _ _ => fun _ _ _ => false)) ((fun _ _ _ _ _ => fun _ _ _ => false)) ((fun _ _ _ => fun _ _ _ => false)) ((fun _ _ _ _ _ => fun _ _ _ => false)) (fun _ _ _ => false) ((fun _ _ _ => fun _ _ _ => false)) (fun _ _ _ => false) ((fun _ => fun _ _ _ => false)) (fun _ _ _ => false) ((fun _ _ => fun _ _ _ => false)) ((fun _ _ => fun _ _ _ => false)) () (fun _ _ _ _ => ()))
def pkR (f g h : Q2 → AV) (p : Put) : Run := fun _ K T st => pickC (f T) (g T) (h T) fun v => p T v K st
def callR (f : FuncId) (gs : List (Q2 → AV)) (p : Put) : Run := fun cc K T st => rowG gs T fun l => cc f l st fun v st => p T v K st
def callV : AV → CallC → List AV → St → (AV → St → Bool) → Bool := (AV.rec (motive_1 := fun _ => CallC → List AV → St → (AV → St → Bool) → Bool) (motive_2 := fun _ => Unit) ((fun _ => fun _ _ _ _ => false)) ((fun _ _ => fun _ _ _ _ => false)) ((fun _ => fun _ _ _ _ => false)) (fun _ _ _ _ => false) ((fun _ _ _ => fun _ _ _ _ => false)) (fun _ _ _ _ => false) ((fun _ _ _ _ _ => fun _ _ _ _ => false)) ((fun _ _ _ _ _ => fun _ _ _ _ => false)) ((fun _ _ _ => fun _ _ _ _ => false)) (fun f a cap _ _ cc l st k => cc f (appL a (appL l cap)) st k) (fun _ _ _ _ => false) ((fun _ _ _ => fun _ _ _ _ => false)) (fun _ _ _ _ => false) ((fun _ => fun _ _ _ _ => false)) (fun _ _ _ _ => false) ((fun _ _ => fun _ _ _ _ => false)) ((fun _ _ => fun _ _ _ _ => false)) () (fun _ _ _ _ => ()))
def callvR (g : Q2 → AV) (gs : List (Q2 → AV)) (p : Put) : Run := fun cc K T st => rowG gs T fun l => callV (g T) cc l st fun v st => p T v K st
def invV (P : Program) (name : String) (v : AV) (cc : CallC) (l : List AV) (st : St) (k : AV → St → Bool) : Bool := match v with
 | .ifc t u => obB (methA P t name) fun fid => cc fid (u :: l) st k
 | _ => false
def invR (P : Program) (name : String) (g : Q2 → AV) (gs : List (Q2 → AV)) (p : Put) : Run := fun cc K T st => rowG gs T fun l => invV P name (g T) cc l st fun v st => p T v K st
def wantC : AV → Bool → Bool → Bool → Bool := (AV.rec (motive_1 := fun _ => Bool → Bool → Bool → Bool) (motive_2 := fun _ => Unit) (fun b pol x y => Bool.rec (Bool.rec x y pol) (Bool.rec y x pol) b) ((fun _ _ => fun _ _ y => y)) ((fun _ => fun _ _ y => y)) (fun _ _ y => y) ((fun _ _ _ => fun _ _ y => y)) (fun _ _ y => y) ((fun _ _ _ _ _ => fun _ _ y => y)) ((fun _ _ _ _ _ => fun _ _ y => y)) ((fun _ _ _ => fun _ _ y => y)) ((fun _ _ _ _ _ => fun _ _ y => y)) (fun _ _ y => y) ((fun _ _ _ => fun _ _ y => y)) (fun _ _ y => y) ((fun _ => fun _ _ y => y)) (fun _ _ y => y) ((fun _ _ => fun _ _ y => y)) ((fun _ _ => fun _ _ y => y)) () (fun _ _ _ _ => ()))
def grR (g : Q2 → AV) (pol : Bool) (r : Run) (p : Put) : Run := fun cc K T st => wantC (g T) pol (r cc K T st) (p T (.tup []) K st)
def genR (P : Program) (G : Env) (o : Op) (p : Put) : Run := fun _ K T st => obB (aop P (opC G T) o st) fun r => p T r.1 K r.2

/-! Memory. -/
def Tr.getQ {α : Type} (t : Tr α) : Nat → Option α :=
 Tr.rec (fun _ => none) (fun v _ _ gl gr n => Bool.rec (Bool.rec (gr (Nat.div n 2)) (gl (Nat.div n 2)) (Nat.beq (Nat.mod n 2) 0)) v (Nat.beq n 0)) t
abbrev PartC := List AV → Nat → KV → Bool
def partAgg (n : Nat) : PartC := fun l off k => obB (takeK n (dropN off l) fun r => some (.agg r)) k
def partOne : PartC := fun l off k => obB (nth l off) k
def withPart {β : Type} (P : Program) (t : TypeId) (bad : β) (k : PartC → β) : β := match tk P t with
 | .agg n => k (partAgg n)
 | .one => k partOne
 | .bad => bad
def ldRow (ro : Bool) (ms : List (Nat × Nat × Option (List AV))) (m off : Nat) (pt : PartC) (k : KV) : Bool := obB (nth ms m) fun x => obB x.2.2 fun l => pt l off k
def ldCls : Cls → Nat → Nat → PartC → KV → Bool := Cls.rec (motive := fun _ => Nat → Nat → PartC → KV → Bool) ldRow (fun _ _ _ _ _ _ _ => false) (fun _ _ _ _ _ _ => false)
def ldGet : Option Cls → Nat → Nat → PartC → KV → Bool := Option.rec (motive := fun _ => Nat → Nat → PartC → KV → Bool) (fun _ _ _ _ => false) ldCls
def loadC (pt : PartC) : AV → St → KV → Bool := fun x st k => (AV.rec (motive_1 := fun _ => St → PartC → KV → Bool) (motive_2 := fun _ => Unit) ((fun _ => fun _ _ _ => false)) ((fun _ _ => fun _ _ _ => false)) ((fun _ => fun _ _ _ => false)) (fun _ _ _ => false) (fun c m off st pt k => ldGet (Tr.getQ st.h c) m off pt k) (fun _ _ _ => false) ((fun _ _ _ _ _ => fun _ _ _ => false)) ((fun _ _ _ _ _ => fun _ _ _ => false)) ((fun _ _ _ => fun _ _ _ => false)) ((fun _ _ _ _ _ => fun _ _ _ => false)) (fun _ _ _ => false) ((fun _ _ _ => fun _ _ _ => false)) (fun _ _ _ => false) ((fun _ => fun _ _ _ => false)) (fun _ _ _ => false) ((fun _ _ => fun _ _ _ => false)) ((fun _ _ => fun _ _ _ => false)) () (fun _ _ _ _ => ())) x st pt k
def faC (o : Nat) : AV → KV → Bool := fun x k => (AV.rec (motive_1 := fun _ => Nat → KV → Bool) (motive_2 := fun _ => Unit) ((fun _ => fun _ _ => false)) ((fun _ _ => fun _ _ => false)) ((fun _ => fun _ _ => false)) (fun _ _ => false) (fun c m off o k => sNat (Nat.add off o) fun z => k (.ptr c m z)) (fun _ _ => false) ((fun _ _ _ _ _ => fun _ _ => false)) ((fun _ _ _ _ _ => fun _ _ => false)) ((fun _ _ _ => fun _ _ => false)) ((fun _ _ _ _ _ => fun _ _ => false)) (fun _ _ => false) ((fun _ _ _ => fun _ _ => false)) (fun _ _ => false) ((fun _ => fun _ _ => false)) (fun _ _ => false) ((fun _ _ => fun _ _ => false)) ((fun _ _ => fun _ _ => false)) () (fun _ _ _ _ => ())) x o k
def ncC : AV → KV → Bool := (AV.rec (motive_1 := fun _ => KV → Bool) (motive_2 := fun _ => Unit) ((fun _ => fun _ => false)) ((fun _ _ => fun _ => false)) ((fun _ => fun _ => false)) (fun _ => false) (fun c m off k => k (.ptr c m off)) (fun _ => false) ((fun _ _ _ _ _ => fun _ => false)) ((fun _ _ _ _ _ => fun _ => false)) ((fun _ _ _ => fun _ => false)) (fun f a c _ _ k => k (.fn f a c)) (fun _ => false) ((fun _ _ _ => fun _ => false)) (fun _ => false) ((fun _ => fun _ => false)) (fun _ => false) ((fun _ _ => fun _ => false)) ((fun _ _ => fun _ => false)) () (fun _ _ _ _ => ()))
def storeC (P : Program) (t : TypeId) : AV → AV → St → (AV → St → Bool) → Bool := fun x y st k => obB (storeA P t x y st) fun r => k r.1 r.2
def allocC (P : Program) (t : TypeId) : St → (AV → St → Bool) → Bool := fun st k => obB (allocA P t st) fun r => k r.1 r.2
def iaC (P : Program) (t : TypeId) : AV → AV → KV → Bool := fun x y k => obB (indexAddrA P t x y) k
def ixC (P : Program) (t : TypeId) : AV → AV → KV → Bool := fun x y k => obB (indexA P t x y) k
def exC (i : Nat) : AV → KV → Bool := fun x k => (AV.rec (motive_1 := fun _ => Nat → KV → Bool) (motive_2 := fun _ => Unit) ((fun _ => fun _ _ => false)) ((fun _ _ => fun _ _ => false)) ((fun _ => fun _ _ => false)) (fun _ _ => false) ((fun _ _ _ => fun _ _ => false)) (fun _ _ => false) ((fun _ _ _ _ _ => fun _ _ => false)) ((fun _ _ _ _ _ => fun _ _ => false)) ((fun _ _ _ => fun _ _ => false)) ((fun _ _ _ _ _ => fun _ _ => false)) (fun _ _ => false) ((fun _ _ _ => fun _ _ => false)) (fun _ _ => false) ((fun _ => fun _ _ => false)) (fun _ _ => false) ((fun _ _ => fun _ _ => false)) (fun l _ i k => obB (nth l i) k) () (fun _ _ _ _ => ())) x i k
def lenC (P : Program) (ts : List TypeId) : AV → KV → Bool := fun x k => obB (lenA P ts x) k

/-! Two numbers. -/
def is64 {α : Type} (k : IntKind) (x z : α) : α := IntKind.rec (motive := fun _ => α → α → α) (fun _ z => z) (fun _ z => z) (fun _ z => z) (fun x _ => x) (fun _ z => z) (fun _ z => z) (fun _ z => z) (fun _ z => z) k x z
/-- Both are numbers of 64 bits: their own way; any other: the other. -/
def int2 (f : Int → Int → KV → Bool → Bool) : AV → AV → KV → Bool → Bool := fun x y k z =>
  (AV.rec (motive_1 := fun _ => AV → (Int → Int → KV → Bool → Bool) → KV → Bool → Bool) (motive_2 := fun _ => Unit) ((fun _ => fun _ _ _ z => z)) (fun j a y f k z => (AV.rec (motive_1 := fun _ => IntKind → Int → (Int → Int → KV → Bool → Bool) → KV → Bool → Bool) (motive_2 := fun _ => Unit) ((fun _ => fun _ _ _ _ z => z)) (fun i b j a f k z => is64 j (is64 i (f a b k z) z) z) ((fun _ => fun _ _ _ _ z => z)) (fun _ _ _ _ z => z) ((fun _ _ _ => fun _ _ _ _ z => z)) (fun _ _ _ _ z => z) ((fun _ _ _ _ _ => fun _ _ _ _ z => z)) ((fun _ _ _ _ _ => fun _ _ _ _ z => z)) ((fun _ _ _ => fun _ _ _ _ z => z)) ((fun _ _ _ _ _ => fun _ _ _ _ z => z)) (fun _ _ _ _ z => z) ((fun _ _ _ => fun _ _ _ _ z => z)) (fun _ _ _ _ z => z) ((fun _ => fun _ _ _ _ z => z)) (fun _ _ _ _ z => z) ((fun _ _ => fun _ _ _ _ z => z)) ((fun _ _ => fun _ _ _ _ z => z)) () (fun _ _ _ _ => ())) y j a f k z) ((fun _ => fun _ _ _ z => z)) (fun _ _ _ z => z) ((fun _ _ _ => fun _ _ _ z => z)) (fun _ _ _ z => z) ((fun _ _ _ _ _ => fun _ _ _ z => z)) ((fun _ _ _ _ _ => fun _ _ _ z => z)) ((fun _ _ _ => fun _ _ _ z => z)) ((fun _ _ _ _ _ => fun _ _ _ z => z)) (fun _ _ _ z => z) ((fun _ _ _ => fun _ _ _ z => z)) (fun _ _ _ z => z) ((fun _ => fun _ _ _ z => z)) (fun _ _ _ z => z) ((fun _ _ => fun _ _ _ z => z)) ((fun _ _ => fun _ _ _ z => z)) () (fun _ _ _ _ => ())) x y f k z
def eqlN : Int → Int → KV → Bool → Bool := fun a b k z => k (.bool (eqI a b))
def neqN : Int → Int → KV → Bool → Bool := fun a b k z => k (.bool (!eqI a b))
def lssN : Int → Int → KV → Bool → Bool := fun a b k z => k (.bool (ltI a b))
def leqN : Int → Int → KV → Bool → Bool := fun a b k z => k (.bool (!ltI b a))
def gtrN : Int → Int → KV → Bool → Bool := fun a b k z => k (.bool (ltI b a))
def geqN : Int → Int → KV → Bool → Bool := fun a b k z => k (.bool (!ltI a b))
def addN : Int → Int → KV → Bool → Bool := fun a b k z => Int.rec (motive := fun _ => Int → KV → Bool → Bool) (fun m b k z => Int.rec (motive := fun _ => Nat → KV → Bool → Bool) (fun n m k z => Bool.rec z (sNat (Nat.add m n) fun s => k (.int .i64 (Int.ofNat s))) (Nat.ble (Nat.add m n) i64most)) (fun _ _ _ z => z) b m k z) (fun _ _ _ z => z) a b k z
def binG (P : Program) (op : BinOp) (t : TypeId) : AV → AV → KV → Bool := fun x y k => obB (b2 P op t x y) k
def binN (f : Int → Int → KV → Bool → Bool) (g : AV → AV → KV → Bool) : AV → AV → KV → Bool := fun x y k => int2 f x y k (g x y k)
def binC (P : Program) (op : BinOp) (t : TypeId) : AV → AV → KV → Bool := match op with
 | .eql => binN eqlN (binG P op t)
 | .neq => binN neqN (binG P op t)
 | .lss => binN lssN (binG P op t)
 | .leq => binN leqN (binG P op t)
 | .gtr => binN gtrN (binG P op t)
 | .geq => binN geqN (binG P op t)
 | .add => binN addN (binG P op t)
 | _ => binG P op t

/-! What an operation becomes. -/
def innerC (P : Program) (G : Env) (o : Op) (p : Put) : CI := match o with
 | .move x => withG G x badCI fun g => ⟨mvR g p⟩
 | .assign x => withG G x badCI fun g => ⟨mvR g p⟩
 | .pick c a b => withG G c badCI fun f => withG G a badCI fun g => withG G b badCI fun h => ⟨pkR f g h p⟩
 | .alloc t => ⟨alR (allocC P t) p⟩
 | .load t a => withPart P t badCI fun pt => withG G a badCI fun g => ⟨ldR (loadC pt) g p⟩
 | .store t a v => withG G a badCI fun g => withG G v badCI fun h => ⟨stR (storeC P t) g h p⟩
 | .nilCheck x => withG G x badCI fun g => ⟨unR ncC g p⟩
 | .binOp op t x y _ => withG G x badCI fun g => withG G y badCI fun h => ⟨biR (binC P op t) g h p⟩
 | .fieldAddr t x f => withG G x badCI fun g => Option.rec badCI (fun off => sNat off fun off => ⟨unR (faC off) g p⟩) (fieldOff P t f)
 | .indexAddr t x i => withG G x badCI fun g => withG G i badCI fun h => ⟨biR (iaC P t) g h p⟩
 | .index t x i => withG G x badCI fun g => withG G i badCI fun h => ⟨biR (ixC P t) g h p⟩
 | .extract t i => withG G t badCI fun g => ⟨unR (exC i) g p⟩
 | .call c => (match c.callee with
  | .value f => (match f with
   | .func f => withGs G badCI c.args.toList fun gs => ⟨callR f gs p⟩
   | x => withG G x badCI fun g => withGs G badCI c.args.toList fun gs => ⟨callvR g gs p⟩)
  | .invoke x name => withG G x badCI fun g => withGs G badCI c.args.toList fun gs => ⟨invR P name g gs p⟩
  | .builtin b => (match b with
   | .len => (match c.args.toList with
    | x :: [] => bif' (isMapT P c.argTypes.toList) ⟨genR P G o p⟩ (withG G x badCI fun g => ⟨unR (lenC P c.argTypes.toList) g p⟩)
    | _ => badCI)
   | _ => ⟨genR P G o p⟩))
 | _ => ⟨genR P G o p⟩
/-- Under its guard. -/
def guardC (ops : List Oper) (o : Oper) (p : Put) (c : CI) : CI := match o.guard with
  | none => c
  | some g => (match dstOf ops g.1 with
    | some t => withTmp t badCI fun gt _ => ⟨grR gt g.2 c.run p⟩
    | none => ⟨fun _ K T st => p T (.tup []) K st⟩)
def compC (P : Program) (G : Env) (N : Nat) (ops : List Oper) (o : Oper) : CI := withP N o.dst fun p => guardC ops o p (innerC P G o.op p)
/-- A region in the order of its text. -/
def regC (l : List CI) : CallC → KB → KB := List.rec (motive := fun _ => CallC → KB → KB) (fun _ K T st => K T st) (fun i _ ih cc K T st => i.run cc (ih cc K) T st) l

/-! A region that draws. -/
inductive DI where
 | plain (c : CI)
 | act (c : CI)
 | read (f : List St → Run)
def againC (pt : PartC) (x v : AV) (n : Nat) : List St → Bool := Nat.rec (fun _ => true) (fun _ ih l => List.rec false (fun st t _ => bif' (loadC pt x st fun u => eqV u v) (ih t) false) l) n
def rdR (pt : PartC) (n : Nat) (g : Q2 → AV) (p : Put) (sn : List St) : Run := fun _ K T st => loadC pt (g T) st fun v => Bool.rec false (p T v K st) (againC pt (g T) v n (List.rec [] (fun _ t _ => t) sn))
def compD (P : Program) (G : Env) (N : Nat) (ops : List Oper) (q : Nat × Oper × Nat) : DI :=
 bif' (Nat.beq q.2.2 0) (bif' (Nat.beq (kindA P q.2.1.op) 3) (.act (compC P G N ops q.2.1)) (.plain (compC P G N ops q.2.1)))
  (match q.2.1.op with
  | .load t a => .read fun sn => CI.run (withP N q.2.1.dst fun p => guardC ops q.2.1 p (withPart P t badCI fun pt => withG G a badCI fun g => ⟨rdR pt q.2.2 g p sn⟩))
  | _ => .plain badCI)
def dPlain (c : CI) : (List St → KB) → CallC → List St → KB := fun kk cc sn T st => c.run cc (kk sn) T st
def dAct (c : CI) : (List St → KB) → CallC → List St → KB := fun kk cc sn T st => c.run cc (fun T st => kk (st :: sn) T st) T st
def dRead (f : List St → Run) : (List St → KB) → CallC → List St → KB := fun kk cc sn T st => f sn cc (kk sn) T st
def runD (l : List DI) : CallC → KB → List St → KB := List.rec (motive := fun _ => CallC → KB → List St → KB) (fun _ K _ T st => K T st) (fun i _ ih cc K sn T st => DI.rec (motive := fun _ => (List St → KB) → CallC → List St → KB) dPlain dAct dRead i (ih cc K) cc sn T st) l

/-! Code. -/
inductive CC where
 | skip
 | reg (l : List CI)
 | regD (l : List DI)
 | seq (a b : CC)
 | cond (g : Q2 → AV) (a b : CC)
 | block (id : Nat) (b : CC)
 | loop (b : CC)
 | range (hd : AV → St → (Nat → (Nat → St → KV → Bool) → Bool) → Bool) (g : Q2 → AV) (p1 p2 : Put) (a b : CC)
 | exit (id : Nat)
 | ret
 | bad
def withPB {β : Type} (N : Nat) (t : Nat) (bad : β) (k : Put → β) : β := bif' (Nat.ble (t + 1) N) (withTmp t bad fun _ p => k p) bad
/-- How many rounds a range over a row from behind has; an element. -/
def hdN (n : Int) (k : Nat → Bool) : Bool := Int.rec (fun n => Bool.rec false (k n) (Nat.ble n i64most)) (fun _ => false) n
def elC (P : Program) (q : TypeId × TypeId) (x : AV) : Nat → St → KV → Bool := fun i st kv => obB (loadA P q.1 x st.h.get) fun s => obB (indexAddrA P q.1 s (.int .i64 (Int.ofNat i))) fun a => obB (loadA P q.2 a st.h.get) kv
def hdC (P : Program) (G : Env) : AV → St → (Nat → (Nat → St → KV → Bool) → Bool) → Bool := fun v st k => match v with
 | .fn f first cap => obB (G.b f) fun q => (match first with
  | [] => (match cap with
   | x :: [] => obB (loadA P q.1 x st.h.get) fun s => obB (lenA P [q.1] s) fun n => (match n with
    | .int _ n => hdN n fun n => k n (elC P q x)
    | _ => false)
   | _ => false)
  | _ => false)
 | _ => false
def compR (P : Program) (G : Env) (N : Nat) (g : Operand) (ps : List Tmp) (pl : Bool) (a b : CC) : CC := match ps with
 | x :: y :: [] => bif' pl (withG G g .bad fun gg => withPB N x .bad fun p1 => withPB N y .bad fun p2 => .range (hdC P G) gg p1 p2 a b) .bad
 | _ => .bad
def compK (P : Program) (G : Env) (N : Nat) (c : Code) : CC := Code.rec (motive := fun _ => CC)
 .skip
 (fun _ ops draw => bif' draw (Option.rec .bad (fun pl => .regD (mapL (compD P G N ops.toList) pl)) (planOf P ops.toList)) (.reg (mapL (compC P G N ops.toList) ops.toList)))
 (fun _ _ a b => .seq a b)
 (fun c _ _ a b => withG G c .bad fun g => .cond g a b)
 (fun id _ f => .block id f)
 (fun _ f => .loop f)
 (fun g ps x y a b => compR P G N g ps.toList (bif' (plainC x) (plainC y) false) a b)
 (fun id => .exit id)
 (fun _ _ => .bad)
 (fun _ => .skip)
 (fun _ => .bad)
 .ret
 (fun _ => .bad)
 c
def condC : AV → KB → KB → Q2 → St → Bool := (AV.rec (motive_1 := fun _ => KB → KB → Q2 → St → Bool) (motive_2 := fun _ => Unit) (fun b x y T st => Bool.rec (y T st) (x T st) b) ((fun _ _ => fun _ _ _ _ => false)) ((fun _ => fun _ _ _ _ => false)) (fun _ _ _ _ => false) ((fun _ _ _ => fun _ _ _ _ => false)) (fun _ _ _ _ => false) ((fun _ _ _ _ _ => fun _ _ _ _ => false)) ((fun _ _ _ _ _ => fun _ _ _ _ => false)) ((fun _ _ _ => fun _ _ _ _ => false)) ((fun _ _ _ _ _ => fun _ _ _ _ => false)) (fun _ _ _ _ => false) ((fun _ _ _ => fun _ _ _ _ => false)) (fun _ _ _ _ => false) ((fun _ => fun _ _ _ _ => false)) (fun _ _ _ _ => false) ((fun _ _ => fun _ _ _ _ => false)) ((fun _ _ => fun _ _ _ _ => false)) () (fun _ _ _ _ => ()))
abbrev CodeB := CallC → (Nat → KB) → KB → KB → KB
def cSkip : CodeB := fun _ _ _ K T st => K T st
def cReg (l : List CI) : CodeB := fun cc _ _ K T st => regC l cc K T st
def cRegD (l : List DI) : CodeB := fun cc _ _ K T st => runD l cc K [st] T st
def cSeq (_ _ : CC) (f g : CodeB) : CodeB := fun cc E R K T st => f cc E R (g cc E R K) T st
def cCond (g : Q2 → AV) (_ _ : CC) (a b : CodeB) : CodeB := fun cc E R K T st => condC (g T) (a cc E R K) (b cc E R K) T st
def cBlock (id : Nat) (_ : CC) (f : CodeB) : CodeB := fun cc E R K T st => f cc (fun i => bif' (Nat.beq i id) K (E i)) R K T st
def cLoop (L : Nat) (_ : CC) (f : CodeB) : CodeB := fun cc E R K T st => Nat.rec (motive := fun _ => KB) (fun _ _ => false) (fun _ ih => f cc E R ih) L T st
def cRange (hd : AV → St → (Nat → (Nat → St → KV → Bool) → Bool) → Bool) (g : Q2 → AV) (p1 p2 : Put) (_ _ : CC) (fa fb : CodeB) : CodeB := fun cc E R K T st => hd (g T) st fun n el =>
 Nat.rec (motive := fun _ => St → Bool) (fun st => K T st) (fun i ih st => el i st fun v => p1 T (.int .i64 (Int.ofNat i)) (fun T1 st => p2 T1 v (fun T2 st => fa cc (fun _ _ _ => false) (fun _ _ => false) (fun T3 st => fb cc (fun id _ st => E id T st) (fun _ st => R T st) (fun _ st => tl (ih st)) T3 st) T2 st) st) st) n st
def cExit (id : Nat) : CodeB := fun _ E _ _ T st => E id T st
def cRet : CodeB := fun _ _ R _ T st => R T st
def cBad : CodeB := fun _ _ _ _ _ _ => false
def runK (L : Nat) (c : CC) : CodeB := CC.rec (motive := fun _ => CodeB) cSkip cReg cRegD cSeq cCond cBlock (cLoop L) cRange cExit cRet cBad c

/-! Functions. -/
structure FN where
 code : CC
 n : Nat
 res : List ResultVar
def compF (P : Program) (G : Env) (f : FuncId) : Option FN := ob (fnOf P f) fun q => need (Nat.ble q.2.1 256) (some ⟨compK P G q.2.1 q.1, q.2.1, q.2.2⟩)
def q0 : AV := .tup []
def Q1.zero : Q1 := ⟨q0, q0, q0, q0, q0, q0, q0, q0, q0, q0, q0, q0, q0, q0, q0, q0⟩
def Q2.zero : Q2 := ⟨.zero, .zero, .zero, .zero, .zero, .zero, .zero, .zero, .zero, .zero, .zero, .zero, .zero, .zero, .zero, .zero⟩
/-- Arguments into the first temporaries. -/
structure PutBox where
  put : Put
def putAt (t : Nat) : PutBox := withTmp t ⟨fun _ _ _ _ => false⟩ fun _ p => ⟨p⟩
def argsC (l : List AV) : Nat → Q2 → KB → St → Bool := List.rec (motive := fun _ => Nat → Q2 → KB → St → Bool) (fun _ T K st => K T st) (fun v _ ih i T K st => (putAt i).put T v (fun T st => ih (Nat.succ i) T K st) st) l
def resC (P : Program) (T : Q2) (st : St) (r : ResultVar) (k : KV) : Bool := match r with
 | .tmp t => k (getN t T)
 | .cell a t => obB (loadA P t (getN a T) st.h.get) k
def resultsC (P : Program) (l : List ResultVar) (T : Q2) (st : St) : (List AV → Bool) → Bool := List.rec (motive := fun _ => (List AV → Bool) → Bool) (fun k => k []) (fun r _ ih k => resC P T st r fun v => ih fun l => k (v :: l)) l
def endK (P : Program) (res : List ResultVar) (k : AV → St → Bool) : KB := fun T st => resultsC P res T st fun vs => k (List.rec (.tup []) (fun v t _ => List.rec v (fun _ _ _ => .tup vs) t) vs) st
def callB (P : Program) (L : Nat) (q : FN) (cc : CallC) : List AV → St → (AV → St → Bool) → Bool := fun args st k => Bool.rec false (argsC args 0 .zero (fun T st => runK L q.code cc (fun _ _ _ => false) (endK P q.res k) (endK P q.res k) T st) st) (Nat.ble (lenL args) q.n)
/-- A call. -/
def callC (P : Program) (G : Env) (L : Nat) (fuel : Nat) : CallC := Nat.rec (motive := fun _ => CallC) (fun _ _ _ _ => false) (fun _ ih f args st k => Option.rec (obB (compF P G f) fun q => tl (callB P L q ih args st k)) (fun sm => obB (sm args st) fun r => k r.1 r.2) (G.s f)) fuel
def truthC : AV → St → Bool := fun v _ => (AV.rec (motive_1 := fun _ => Bool) (motive_2 := fun _ => Unit) (fun b => b) ((fun _ _ => false)) ((fun _ => false)) (false) ((fun _ _ _ => false)) (false) ((fun _ _ _ _ _ => false)) ((fun _ _ _ _ _ => false)) ((fun _ _ _ => false)) ((fun _ _ _ _ _ => false)) (false) ((fun _ _ _ => false)) (false) ((fun _ => false)) (false) ((fun _ _ => false)) ((fun _ _ => false)) () (fun _ _ _ _ => ())) v

end
end Go.Proofs.YtiknomepbklibaaGreatDoor
end

section
/-
  The swift reckoner says no more than the reckoner does.
-/
namespace Go.Proofs.YtiknomepbklibaaGreatDoor
open Go
set_option linter.unusedVariables false
set_option linter.unusedSimpArgs false

theorem obB_eq {α : Type} {x : Option α} {k : α → Bool} (h : obB x k = true) : ∃ a, x = some a ∧ k a = true := by
 cases x with
 | none => cases h
 | some a => exact ⟨a, rfl, h⟩
/-- Both have the same temporaries. -/
def RelT (T : Tr AV) (q : Q2) : Prop := ∀ t, tget T t = getN t q
theorem getN_at {t : Nat} {i j : Dg} (hi : dgOf (t / 16) = some i) (hj : dgOf (t % 16) = some j) (q : Q2) : getN t q = Q1.at j (Q2.at i q) := by
 unfold getN
 rw [hi, hj]
theorem withTmp_ok {β : Type} (Pd : β → Prop) {t : Nat} {bad : β} {k : (Q2 → AV) → Put → β} (hb : Pd bad)
  (h : ∀ g p, (∀ q, g q = getN t q) → (∀ q v K st, ∃ q', p q v K st = K q' st ∧ ∀ u, getN u q' = if u = t then v else getN u q) → Pd (k g p)) : Pd (withTmp t bad k) := by
 unfold withTmp
 split
 ·rename_i i hi
  split
  ·rename_i j hj
   rw [Q1.withA_eq, Q2.withA_eq]
   refine h _ _ (fun q => (getN_at hi hj q).symm) fun q v K st => ?_
   obtain ⟨q1, e1, f1, g1⟩ := Q1.up_spec j (Q2.at i q) v (fun x => Q2.up i q x fun T => K T st)
   obtain ⟨q2, e2, f2, g2⟩ := Q2.up_spec i q q1 (fun T => K T st)
   refine ⟨q2, (forceV_eq _ _).trans (e1.trans e2), fun u => ?_⟩
   cases hi' : dgOf (u / 16) with
   | none =>
    have : u ≠ t := fun e => by rw [e, hi] at hi'; cases hi'
    rw [if_neg this]
    unfold getN
    rw [hi']
   | some i' =>
    cases hj' : dgOf (u % 16) with
    | none =>
     have : u ≠ t := fun e => by rw [e, hj] at hj'; cases hj'
     rw [if_neg this]
     unfold getN
     rw [hi', hj']
    | some j' =>
     rw [getN_at hi' hj', getN_at hi' hj']
     have a1 := dgOf_eq hi
     have a2 := dgOf_eq hj
     have a3 := dgOf_eq hi'
     have a4 := dgOf_eq hj'
     by_cases hii : i' = i
     ·subst hii
      rw [f2]
      by_cases hjj : j' = j
      ·subst hjj
       rw [f1, if_pos (by omega)]
      ·have : u ≠ t := fun e => hjj (Dg.num_inj (by rw [← a4, ← a2, e]))
       rw [if_neg this, g1 _ hjj]
     ·have : u ≠ t := fun e => hii (Dg.num_inj (by rw [← a3, ← a1, e]))
      rw [if_neg this, g2 _ hii]
  ·exact hb
 ·exact hb
def GetOk (G : Env) (x : Operand) (g : Q2 → AV) : Prop := ∀ T q, RelT T q → opd G T x = some (g q)
def PutOk (N : Nat) (d : Option Nat) (p : Put) : Prop := ∀ T q v K st, RelT T q → p q v K st = true → ∃ T' q', (∀ (β : Type) (k : Tr AV → Option β), putF N d v T k = k T') ∧ RelT T' q' ∧ K q' st = true
theorem withG_ok {β : Type} (Pd : β → Prop) {G : Env} {x : Operand} {bad : β} {k : (Q2 → AV) → β} (hb : Pd bad) (h : ∀ g, GetOk G x g → Pd (k g)) : Pd (withG G x bad k) := by
 cases x with
 | tmp t => exact withTmp_ok (k := fun g _ => k g) (t := t) Pd hb fun g p hg _ => h g fun T q hT => by rw [hg]; exact congrArg some (hT t)
 | const v =>
  show Pd (Option.rec bad (fun a => k (fun _ => a)) (ofConst v))
  cases hv : ofConst v with
  | none => exact hb
  | some a => exact h _ fun T q hT => hv
 | global n =>
  show Pd (bif' (G.g n) (k (fun _ => .ptr n 0 0)) bad)
  cases hg : G.g n with
  | false => exact hb
  | true => exact h _ fun T q hT => by show need (G.g n) _ = _; rw [hg]; rfl
 | func f => exact h _ fun T q hT => rfl
theorem withP_ok (Pd : CI → Prop) {N : Nat} {d : Option Nat} {k : Put → CI} (hb : Pd badCI) (h : ∀ p, PutOk N d p → Pd (k p)) : Pd (withP N d k) := by
 cases d with
 | none => exact h _ fun T q v K st hT hK => ⟨T, q, fun _ _ => rfl, hT, hK⟩
 | some t =>
  show Pd (bif' (Nat.ble (t + 1) N) (withTmp t badCI fun _ p => k p) badCI)
  cases hn : Nat.ble (t + 1) N with
  | false => exact hb
  | true =>
   refine withTmp_ok (k := fun _ p => k p) (t := t) Pd hb fun g p _ hp => h p fun T q v K st hT hK => ?_
   obtain ⟨q', e, hq⟩ := hp q v K st
   refine ⟨T.set t v, q', fun β k => ?_, fun u => ?_, by rw [← e]; exact hK⟩
   ·show need (Nat.ble (t + 1) N) (T.put t v k) = _
    rw [hn, Tr.put_eq]
    rfl
   ·rw [tget_set, hq, hT u]
theorem withPB_ok {β : Type} (Pd : β → Prop) {N : Nat} {t : Nat} {bad : β} {k : Put → β} (hb : Pd bad) (h : ∀ p, PutOk N (some t) p → Pd (k p)) : Pd (withPB N t bad k) := by
 unfold withPB
 cases hn : Nat.ble (t + 1) N with
 | false => exact hb
 | true =>
  refine withTmp_ok (k := fun _ p => k p) (t := t) Pd hb fun g p _ hp => h p fun T q v K st hT hK => ?_
  obtain ⟨q', e, hq⟩ := hp q v K st
  refine ⟨T.set t v, q', fun β k => ?_, fun u => ?_, by rw [← e]; exact hK⟩
  ·show need (Nat.ble (t + 1) N) (T.put t v k) = _
   rw [hn, Tr.put_eq]
   rfl
  ·rw [tget_set, hq, hT u]
theorem withGs_ok {β : Type} (Pd : β → Prop) {G : Env} {bad : β} (hb : Pd bad) : ∀ (l : List Operand) {k : List (Q2 → AV) → β}, (∀ gs, (∀ T q, RelT T q → mapO (opd G T) l = some (gs.map fun g => g q)) → Pd (k gs)) → Pd (withGs G bad l k) := by
 intro l
 induction l with
 | nil => intro k h; exact h [] fun T q hT => rfl
 | cons x l ih =>
  intro k h
  show Pd (withG G x bad fun g => withGs G bad l fun gs => k (g :: gs))
  refine withG_ok Pd hb fun g hg => ih fun gs hgs => h _ fun T q hT => ?_
  rw [mapO_cons, hg T q hT, ob_some, hgs T q hT, ob_some]
  rfl
theorem rowG_eq (gs : List (Q2 → AV)) (q : Q2) : ∀ k : List AV → Bool, rowG gs q k = k (gs.map fun g => g q) := by
 induction gs with
 | nil => intro k; rfl
 | cons g gs ih => intro k; show rowG gs q (fun l => k (g q :: l)) = _; rw [ih]; rfl
theorem opC_eq {G : Env} {T : Tr AV} {q : Q2} (h : RelT T q) : opC G q = opd G T := by
 funext x
 cases x with
 | tmp t => exact congrArg some (h t).symm
 | const v => rfl
 | global g => rfl
 | func f => rfl

def CallLaw (cc : CallC) (call : CallF) : Prop := ∀ f args st k, cc f args st k = true → ∃ v st', call f args st = some (v, st') ∧ k v st' = true
/-- An operation's run is right. -/
def InOk (P : Program) (G : Env) (N : Nat) (o : Oper) (r : Run) : Prop := ∀ call cc, CallLaw cc call → ∀ T q st K, RelT T q → r cc K q st = true →
  ∃ v st' T' q', opF P (opd G T) call o st = some (v, st') ∧ (∀ (β : Type) (k : Tr AV → Option β), putF N o.dst v T k = k T') ∧ RelT T' q' ∧ K q' st' = true
theorem in_bad (P : Program) (G : Env) (N : Nat) (o : Oper) : InOk P G N o badCI.run := fun _ _ _ _ _ _ _ _ h => by cases h
theorem in_of {P : Program} {G : Env} {N : Nat} {o : Oper} {p : Put} (hp : PutOk N o.dst p) {call : CallF} {T : Tr AV} {q : Q2} {st st' : St} {K : KB} {v : AV} (hT : RelT T q) (ho : opF P (opd G T) call o st = some (v, st')) (h : p q v K st' = true) :
  ∃ v st' T' q', opF P (opd G T) call o st = some (v, st') ∧ (∀ (β : Type) (k : Tr AV → Option β), putF N o.dst v T k = k T') ∧ RelT T' q' ∧ K q' st' = true := by
 obtain ⟨T', q', h1, h2, h3⟩ := hp T q v K st' hT h
 exact ⟨v, st', T', q', ho, h1, h2, h3⟩
theorem in_gen {P : Program} {G : Env} {N : Nat} {o : Oper} {p : Put} (hp : PutOk N o.dst p) (hn : ∀ R call st, opF P R call o st = aop P R o.op st) : InOk P G N o (genR P G o.op p) := by
 intro call cc hc T q st K hT h
 obtain ⟨⟨v, st'⟩, h1, h2⟩ := obB_eq h
 rw [opC_eq hT] at h1
 exact in_of hp hT (by rw [hn, h1]) h2

/-! Each operation. -/
theorem pickC_ok {x a b : AV} {k : KV} (h : pickC x a b k = true) : ∃ t, x = .bool t ∧ k (bif' t a b) = true := by
 cases x <;> first | (cases h; done) | skip
 rename_i t
 refine ⟨t, rfl, ?_⟩
 cases t <;> exact h
theorem part_ok {P : Program} {t : TypeId} {β : Type} (Pd : β → Prop) {bad : β} {k : PartC → β} (hb : Pd bad) (h : ∀ pt : PartC, (∀ l off kv, pt l off kv = true → ∃ v, partA P t l off = some v ∧ kv v = true) → Pd (k pt)) : Pd (withPart P t bad k) := by
 unfold withPart
 split
 ·rename_i n hk
  exact h _ fun l off kv hkv => by
   obtain ⟨v, h1, h2⟩ := obB_eq hkv
   exact ⟨v, by unfold partA; rw [hk]; exact h1, h2⟩
 ·rename_i hk
  exact h _ fun l off kv hkv => by
   obtain ⟨v, h1, h2⟩ := obB_eq hkv
   exact ⟨v, by unfold partA; rw [hk]; exact h1, h2⟩
 ·exact hb
theorem loadC_ok {P : Program} {t : TypeId} {pt : PartC} (hpt : ∀ l off kv, pt l off kv = true → ∃ v, partA P t l off = some v ∧ kv v = true) {x : AV} {st : St} {k : KV} (h : loadC pt x st k = true) : ∃ v, loadA P t x st.h.get = some v ∧ k v = true := by
 cases x <;> first | (cases h; done) | skip
 rename_i c m off
 replace h : ldGet (Tr.get st.h c) m off pt k = true := h
 cases hc : Tr.get st.h c with
 | none => rw [hc] at h; cases h
 | some C =>
  rw [hc] at h
  cases C with
  | iter => cases h
  | map => cases h
  | row ro ms =>
   replace h : ldRow ro ms m off pt k = true := h
   obtain ⟨x, h1, h⟩ := obB_eq h
   obtain ⟨l, h2, h⟩ := obB_eq h
   obtain ⟨v, h3, h4⟩ := hpt _ _ _ h
   refine ⟨v, ?_, h4⟩
   show ob (rowOf st.h.get c m) _ = _
   unfold rowOf
   rw [hc, ob_some]
   show ob (ob (nth ms m) _) _ = _
   rw [h1, ob_some, h2, ob_some, ob_some]
   exact h3
theorem faC_ok {P : Program} {t : TypeId} {f o : Nat} (ho : fieldOff P t f = some o) {x : AV} {k : KV} (h : faC o x k = true) : ∃ v, fieldAddrA P t x f = some v ∧ k v = true := by
 cases x <;> first | (cases h; done) | skip
 rename_i c m off
 replace h : sNat (Nat.add off o) (fun z => k (.ptr c m z)) = true := h
 rw [sNat_eq] at h
 refine ⟨.ptr c m (off + o), ?_, h⟩
 show ob (fieldOff P t f) _ = _
 rw [ho, ob_some, sNat_eq]
theorem ncC_ok {x : AV} {k : KV} (h : ncC x k = true) : ((∃ c m off, x = .ptr c m off) ∨ ∃ f a c, x = .fn f a c) ∧ k x = true := by
 cases x <;> first | (cases h; done) | exact ⟨.inl ⟨_, _, _, rfl⟩, h⟩ | exact ⟨.inr ⟨_, _, _, rfl⟩, h⟩
theorem exC_ok {i : Nat} {x : AV} {k : KV} (h : exC i x k = true) : ∃ l v, x = .tup l ∧ nth l i = some v ∧ k v = true := by
 cases x <;> first | (cases h; done) | skip
 rename_i l
 obtain ⟨v, h1, h2⟩ := obB_eq h
 exact ⟨l, v, rfl, h1, h2⟩
theorem is64_eq {α : Type} {k : IntKind} {x z : α} : is64 k x z = if k = .i64 then x else z := by cases k <;> rfl
theorem int2_ok {f : Int → Int → KV → Bool → Bool} {x y : AV} {k : KV} {z : Bool} (h : int2 f x y k z = true) : z = true ∨ ∃ a b, x = .int .i64 a ∧ y = .int .i64 b ∧ f a b k z = true := by
 cases x <;> first | exact .inl h | skip
 rename_i j a
 cases y <;> first | exact .inl h | skip
 rename_i i b
 replace h : is64 j (is64 i (f a b k z) z) z = true := h
 rw [is64_eq, is64_eq] at h
 split at h
 ·rename_i e1
  split at h
  ·rename_i e2
   subst e1 e2
   exact .inr ⟨a, b, rfl, rfl, h⟩
  ·exact .inl h
 ·exact .inl h
theorem binN_ok {P : Program} {op : BinOp} {t : TypeId} {f : Int → Int → KV → Bool → Bool} (hf : ∀ a b k z, f a b k z = true → z = true ∨ ∃ v, b2i op .i64 a b = some v ∧ k v = true)
  (hop : ∀ a b, b2 P op t (.int .i64 a) (.int .i64 b) = b2i op .i64 a b) {x y : AV} {k : KV} (h : binN f (binG P op t) x y k = true) : ∃ v, b2 P op t x y = some v ∧ k v = true := by
 rcases int2_ok h with h | ⟨a, b, rfl, rfl, h⟩
 ·exact obB_eq h
 ·rcases hf _ _ _ _ h with h | ⟨v, h1, h2⟩
  ·exact obB_eq h
  ·exact ⟨v, by rw [hop]; exact h1, h2⟩
theorem addN_ok (a b : Int) (k : KV) (z : Bool) (h : addN a b k z = true) : z = true ∨ ∃ v, b2i .add .i64 a b = some v ∧ k v = true := by
 cases a with
 | negSucc m => exact .inl h
 | ofNat m => cases b with
  | negSucc n => exact .inl h
  | ofNat n =>
   replace h : Bool.rec (motive := fun _ => Bool) z (sNat (Nat.add m n) fun s => k (.int .i64 (Int.ofNat s))) (Nat.ble (Nat.add m n) i64most) = true := h
   cases hb : Nat.ble (Nat.add m n) i64most with
   | false => rw [hb] at h; exact .inl h
   | true =>
    rw [hb] at h
    replace h : sNat (Nat.add m n) (fun s => k (.int .i64 (Int.ofNat s))) = true := h
    rw [sNat_eq] at h
    refine .inr ⟨.int .i64 (Int.ofNat (m + n)), ?_, h⟩
    unfold b2i
    simp only [sInt_eq, wrapF_eq]
    have := i64most_le hb
    have e : IntKind.wrap .i64 (Int.ofNat m + Int.ofNat n) = Int.ofNat m + Int.ofNat n := IntWalk.i64_in _ (by
     have : m + n ≤ 9223372036854775807 := this
     simp only [Int.ofNat_eq_natCast]
     omega)
    rw [e]
    rfl
theorem binC_ok {P : Program} {op : BinOp} {t : TypeId} {x y : AV} {k : KV} (h : binC P op t x y k = true) : ∃ v, b2 P op t x y = some v ∧ k v = true := by
 cases op <;> first
  | exact obB_eq h
  | exact binN_ok (fun a b k z h => .inr ⟨_, rfl, h⟩) (fun a b => by show need (eqK .i64 .i64) _ = _; rw [eqK, decide_eq_true rfl]; rfl) h
  | exact binN_ok addN_ok (fun a b => by show need (eqK .i64 .i64) _ = _; rw [eqK, decide_eq_true rfl]; rfl) h

end Go.Proofs.YtiknomepbklibaaGreatDoor
end

section
/-
  The swift reckoner says no more than the reckoner does: regions, code, calls; the whole.
-/
namespace Go.Proofs.YtiknomepbklibaaGreatDoor
open Go Go.RowKit
set_option linter.unusedVariables false
set_option linter.unusedSimpArgs false

theorem inner_ok (P : Program) (G : Env) (N : Nat) (o : Oper) (p : Put) (hp : PutOk N o.dst p) : InOk P G N o (innerC P G o.op p).run := by
 have hbad : InOk P G N o badCI.run := in_bad P G N o
 obtain ⟨dst, op, ty, pos, after, guard⟩ := o
 have in_of' : ∀ {call : CallF} {T : Tr AV} {q : Q2} {st st' : St} {K : KB} {v : AV}, RelT T q → opF P (opd G T) call ⟨dst, op, ty, pos, after, guard⟩ st = some (v, st') → p q v K st' = true →
  ∃ v st' T' q', opF P (opd G T) call ⟨dst, op, ty, pos, after, guard⟩ st = some (v, st') ∧ (∀ (β : Type) (k : Tr AV → Option β), putF N dst v T k = k T') ∧ RelT T' q' ∧ K q' st' = true := fun hT ho h => in_of hp hT ho h
 cases op with
 | move x =>
  refine withG_ok (fun c : CI => InOk P G N _ c.run) hbad fun g hg => ?_
  intro call cc hc T q st K hT h
  exact in_of' hT (show ret (opd G T x) st = some (g q, st) by rw [hg T q hT]; rfl) h
 | assign x =>
  refine withG_ok (fun c : CI => InOk P G N _ c.run) hbad fun g hg => ?_
  intro call cc hc T q st K hT h
  exact in_of' hT (show ret (opd G T x) st = some (g q, st) by rw [hg T q hT]; rfl) h
 | pick c a b =>
  refine withG_ok (fun c : CI => InOk P G N _ c.run) hbad fun f hf => withG_ok (fun c : CI => InOk P G N _ c.run) hbad fun g hg => withG_ok (fun c : CI => InOk P G N _ c.run) hbad fun h' hh => ?_
  intro call cc hc T q st K hT h
  obtain ⟨t, ht, h⟩ := pickC_ok h
  refine in_of' hT (v := bif' t (g q) (h' q)) (st' := st) ?_ h
  show ob (opd G T c) _ = _
  rw [hf T q hT, ob_some, ht]
  show ret (bif' t (opd G T a) (opd G T b)) st = _
  rw [hg T q hT, hh T q hT]
  cases t <;> rfl
 | alloc t =>
  intro call cc hc T q st K hT h
  obtain ⟨⟨v, st'⟩, h1, h2⟩ := obB_eq h
  exact in_of' hT (show allocA P t st = some (v, st') from h1) h2
 | load t a =>
  refine part_ok (fun c : CI => InOk P G N _ c.run) hbad fun pt hpt => withG_ok (fun c : CI => InOk P G N _ c.run) hbad fun g hg => ?_
  intro call cc hc T q st K hT h
  obtain ⟨v, h1, h2⟩ := loadC_ok hpt h
  refine in_of' hT (v := v) (st' := st) ?_ h2
  show ob (opd G T a) _ = _
  rw [hg T q hT, ob_some]
  show ret (loadA P t (g q) st.h.get) st = _
  rw [h1]
  rfl
 | store t a v =>
  refine withG_ok (fun c : CI => InOk P G N _ c.run) hbad fun g hg => withG_ok (fun c : CI => InOk P G N _ c.run) hbad fun h' hh => ?_
  intro call cc hc T q st K hT h
  obtain ⟨⟨v', st'⟩, h1, h2⟩ := obB_eq h
  refine in_of' hT (v := v') (st' := st') ?_ h2
  show ob (opd G T a) _ = _
  rw [hg T q hT, ob_some]
  show ob (opd G T v) _ = _
  rw [hh T q hT, ob_some]
  exact h1
 | nilCheck x =>
  refine withG_ok (fun c : CI => InOk P G N _ c.run) hbad fun g hg => ?_
  intro call cc hc T q st K hT h
  obtain ⟨h1, h2⟩ := ncC_ok h
  refine in_of' hT (v := g q) (st' := st) ?_ h2
  show ret (ob (opd G T x) _) st = _
  rw [hg T q hT, ob_some]
  rcases h1 with ⟨c, m, off, e⟩ | ⟨f, a, c, e⟩ <;> (rw [e]; rfl)
 | binOp op t x y yt =>
  refine withG_ok (fun c : CI => InOk P G N _ c.run) hbad fun g hg => withG_ok (fun c : CI => InOk P G N _ c.run) hbad fun h' hh => ?_
  intro call cc hc T q st K hT h
  obtain ⟨v, h1, h2⟩ := binC_ok h
  refine in_of' hT (v := v) (st' := st) ?_ h2
  show ret (ob (opd G T x) fun x => ob (opd G T y) fun y => b2 P op t x y) st = _
  rw [hg T q hT, ob_some, hh T q hT, ob_some, h1]
  rfl
 | fieldAddr t x f =>
  refine withG_ok (fun c : CI => InOk P G N _ c.run) hbad fun g hg => ?_
  cases hf : fieldOff P t f with
  | none => exact hbad
  | some off =>
   show InOk P G N _ (CI.run (sNat off fun off => ⟨unR (faC off) g p⟩))
   rw [sNat_eq]
   intro call cc hc T q st K hT h
   obtain ⟨v, h1, h2⟩ := faC_ok hf h
   refine in_of' hT (v := v) (st' := st) ?_ h2
   show ret (ob (opd G T x) fun x => fieldAddrA P t x f) st = _
   rw [hg T q hT, ob_some, h1]
   rfl
 | indexAddr t x i =>
  refine withG_ok (fun c : CI => InOk P G N _ c.run) hbad fun g hg => withG_ok (fun c : CI => InOk P G N _ c.run) hbad fun h' hh => ?_
  intro call cc hc T q st K hT h
  obtain ⟨v, h1, h2⟩ := obB_eq h
  refine in_of' hT (v := v) (st' := st) ?_ h2
  show ret (ob (opd G T x) fun x => ob (opd G T i) fun i => indexAddrA P t x i) st = _
  rw [hg T q hT, ob_some, hh T q hT, ob_some, h1]
  rfl
 | index t x i =>
  refine withG_ok (fun c : CI => InOk P G N _ c.run) hbad fun g hg => withG_ok (fun c : CI => InOk P G N _ c.run) hbad fun h' hh => ?_
  intro call cc hc T q st K hT h
  obtain ⟨v, h1, h2⟩ := obB_eq h
  refine in_of' hT (v := v) (st' := st) ?_ h2
  show ret (ob (opd G T x) fun x => ob (opd G T i) fun i => indexA P t x i) st = _
  rw [hg T q hT, ob_some, hh T q hT, ob_some, h1]
  rfl
 | extract t i =>
  refine withG_ok (fun c : CI => InOk P G N _ c.run) hbad fun g hg => ?_
  intro call cc hc T q st K hT h
  obtain ⟨l, v, e, h1, h2⟩ := exC_ok h
  refine in_of' hT (v := v) (st' := st) ?_ h2
  show ret (ob (opd G T t) _) st = _
  rw [hg T q hT, ob_some, e]
  show ret (nth l i) st = _
  rw [h1]
  rfl
 | call c =>
  obtain ⟨callee, args, ats⟩ := c
  cases callee with
  | value f =>
   have key : ∀ (x : Operand) (gs : List (Q2 → AV)) (call : CallF) (T : Tr AV) (q : Q2) (st st' : St) (v : AV) (fid : FuncId) (a cap : List AV),
     mapO (opd G T) args.toList = some (gs.map fun g => g q) → opd G T x = some (.fn fid a cap) → call fid (appL a (appL (gs.map fun g => g q) cap)) st = some (v, st') →
     opF P (opd G T) call ⟨dst, .call ⟨.value x, args, ats⟩, ty, pos, after, guard⟩ st = some (v, st') := by
    intro x gs call T q st st' v fid a cap h1 h2 h3
    show ob (opd G T x) _ = _
    rw [h2, ob_some]
    show ob (mapO (opd G T) args.toList) _ = _
    rw [h1, ob_some]
    exact h3
   have gen : ∀ x : Operand, InOk P G N ⟨dst, .call ⟨.value x, args, ats⟩, ty, pos, after, guard⟩ (CI.run (withG G x badCI fun g => withGs G badCI args.toList fun gs => ⟨callvR g gs p⟩)) := by
    intro x
    refine withG_ok (fun c : CI => InOk P G N _ c.run) (in_bad P G N _) fun g hg => withGs_ok (fun c : CI => InOk P G N _ c.run) (in_bad P G N _) _ fun gs hgs => ?_
    intro call cc hc T q st K hT h
    replace h : rowG gs q (fun l => callV (g q) cc l st fun v st => p q v K st) = true := h
    rw [rowG_eq] at h
    cases hv : g q with
    | fn fid a cap =>
     rw [hv] at h
     replace h : cc fid (appL a (appL (gs.map fun g => g q) cap)) st (fun v st => p q v K st) = true := h
     obtain ⟨v, st', h1, h2⟩ := hc _ _ _ _ h
     exact in_of (o := ⟨dst, .call ⟨.value x, args, ats⟩, ty, pos, after, guard⟩) hp hT (key x gs call T q st st' v fid a cap (hgs T q hT) (by rw [hg T q hT, hv]) h1) h2
    | _ => rw [hv] at h; cases h
   cases f with
   | func f =>
    refine withGs_ok (fun c : CI => InOk P G N _ c.run) (in_bad P G N _) _ fun gs hgs => ?_
    intro call cc hc T q st K hT h
    replace h : rowG gs q (fun l => cc f l st fun v st => p q v K st) = true := h
    rw [rowG_eq] at h
    obtain ⟨v, st', h1, h2⟩ := hc _ _ _ _ h
    refine in_of hp hT (key (.func f) gs call T q st st' v f [] [] (hgs T q hT) rfl ?_) h2
    rw [appL_eq, appL_eq, List.append_nil, List.nil_append]
    exact h1
   | tmp t => exact gen _
   | const t => exact gen _
   | global t => exact gen _
  | invoke x s =>
   refine withG_ok (fun c : CI => InOk P G N _ c.run) (in_bad P G N _) fun g hg => withGs_ok (fun c : CI => InOk P G N _ c.run) (in_bad P G N _) _ fun gs hgs => ?_
   intro call cc hc T q st K hT h
   replace h : rowG gs q (fun l => invV P s (g q) cc l st fun v st => p q v K st) = true := h
   rw [rowG_eq] at h
   cases hv : g q with
   | ifc t u =>
    rw [hv] at h
    obtain ⟨fid, hm, h⟩ := obB_eq (show obB (methA P t s) (fun fid => cc fid (u :: gs.map fun g => g q) st fun v st => p q v K st) = true from h)
    obtain ⟨v, st', h1, h2⟩ := hc _ _ _ _ h
    refine in_of (o := ⟨dst, .call ⟨.invoke x s, args, ats⟩, ty, pos, after, guard⟩) hp hT ?_ h2
    show ob (opd G T x) _ = _
    rw [hg T q hT, hv, ob_some]
    show ob (methA P t s) _ = _
    rw [hm, ob_some, hgs T q hT, ob_some]
    exact h1
   | _ => rw [hv] at h; cases h
  | builtin b =>
   have hgen : InOk P G N ⟨dst, .call ⟨.builtin b, args, ats⟩, ty, pos, after, guard⟩ (genR P G (.call ⟨.builtin b, args, ats⟩) p) := in_gen hp fun R call st => rfl
   cases b <;> try exact hgen
   show InOk P G N _ (CI.run (match args.toList with
    | x :: [] => bif' (isMapT P ats.toList) ⟨genR P G (.call ⟨.builtin .len, args, ats⟩) p⟩ (withG G x badCI fun g => ⟨unR (lenC P ats.toList) g p⟩)
    | _ => badCI))
   split
   ·rename_i x hx
    cases hmt : isMapT P ats.toList with
    | true => exact hgen
    | false =>
    refine withG_ok (fun c : CI => InOk P G N _ c.run) (in_bad P G N _) fun g hg => ?_
    intro call cc hc T q st K hT h
    obtain ⟨v, h1, h2⟩ := obB_eq h
    refine in_of hp hT (v := v) (st' := st) ?_ h2
    show biA P (opd G T) .len args.toList ats.toList st = _
    rw [hx]
    show bif' (isMapT P ats.toList) _ (ret (ob (opd G T x) fun x => lenA P ats.toList x) st) = _
    rw [hmt, bif_false]
    rw [hg T q hT, ob_some, h1]
    rfl
   ·exact in_bad P G N _
 | _ => exact in_gen hp fun R call st => rfl

/-! An operation with its guard. -/
def RunOk (P : Program) (G : Env) (N : Nat) (ops : List Oper) (o : Oper) (r : Run) : Prop := ∀ call cc, CallLaw cc call → ∀ T q st K, RelT T q → r cc K q st = true →
 ∃ v st' T' q', stepF P G call ops o T st = some (v, st') ∧ (∀ (β : Type) (k : Tr AV → Option β), putF N o.dst v T k = k T') ∧ RelT T' q' ∧ K q' st' = true
noncomputable def wantV (pol : Bool) (x : AV) : Bool := match x with
 | .bool b => bif' b pol (!pol)
 | _ => false
theorem wants_none {ops : List Oper} {o : Oper} {T : Tr AV} (h : o.guard = none) : wants ops o T = true := by unfold wants; rw [h]
theorem wants_some {ops : List Oper} {o : Oper} {T : Tr AV} {g : Nat × Bool} (h : o.guard = some g) {t : Nat} (ht : dstOf ops g.1 = some t) : wants ops o T = wantV g.2 (tget T t) := by
 unfold wants
 rw [h]
 simp only [ht]
 rfl
theorem wants_lost {ops : List Oper} {o : Oper} {T : Tr AV} {g : Nat × Bool} (h : o.guard = some g) (ht : dstOf ops g.1 = none) : wants ops o T = false := by
 unfold wants
 rw [h]
 simp only [ht]
theorem wantC_ok {x : AV} {pol a b : Bool} (h : wantC x pol a b = true) : wantV pol x = true ∧ a = true ∨ wantV pol x = false ∧ b = true := by
 cases x <;> first | exact .inr ⟨rfl, h⟩ | skip
 rename_i t
 cases t <;> cases pol <;> first | exact .inl ⟨rfl, h⟩ | exact .inr ⟨rfl, h⟩
/-- Wanted: it runs; else its temporary is emptied. -/
theorem guard_ok {P : Program} {G : Env} {N : Nat} {ops : List Oper} {o : Oper} {p : Put} {c : CI} (hp : PutOk N o.dst p) (X : (Tr AV → AV → Q2 → Prop)) (hX : ∀ call cc, CallLaw cc call → ∀ T q st K, RelT T q → c.run cc K q st = true →
    ∃ v st' T' q', opF P (opd G T) call o st = some (v, st') ∧ X T v q ∧ (∀ (β : Type) (k : Tr AV → Option β), putF N o.dst v T k = k T') ∧ RelT T' q' ∧ K q' st' = true) :
    ∀ call cc, CallLaw cc call → ∀ T q st K, RelT T q → (guardC ops o p c).run cc K q st = true →
    ∃ v st' T' q', stepF P G call ops o T st = some (v, st') ∧ (wants ops o T = true → X T v q) ∧ (∀ (β : Type) (k : Tr AV → Option β), putF N o.dst v T k = k T') ∧ RelT T' q' ∧ K q' st' = true := by
  have idle : ∀ (call : CallF) T q st K, RelT T q → wants ops o T = false → p q (.tup []) K st = true → ∃ v st' T' q', stepF P G call ops o T st = some (v, st') ∧ (wants ops o T = true → X T v q) ∧ (∀ (β : Type) (k : Tr AV → Option β), putF N o.dst v T k = k T') ∧ RelT T' q' ∧ K q' st' = true := by
    intro call T q st K hT hw h
    obtain ⟨T', q', h1, h2, h3⟩ := hp T q _ K st hT h
    exact ⟨.tup [], st, T', q', by unfold stepF; rw [hw]; rfl, fun h => (by rw [hw] at h; cases h), h1, h2, h3⟩
  have busy : ∀ (call : CallF) cc, CallLaw cc call → ∀ T q st K, RelT T q → wants ops o T = true → c.run cc K q st = true → ∃ v st' T' q', stepF P G call ops o T st = some (v, st') ∧ (wants ops o T = true → X T v q) ∧ (∀ (β : Type) (k : Tr AV → Option β), putF N o.dst v T k = k T') ∧ RelT T' q' ∧ K q' st' = true := by
    intro call cc hc T q st K hT hw h
    obtain ⟨v, st', T', q', h1, h2, h3⟩ := hX call cc hc T q st K hT h
    exact ⟨v, st', T', q', by unfold stepF; rw [hw]; exact h1, fun _ => h2, h3⟩
  unfold guardC
  split
  · rename_i hg
    intro call cc hc T q st K hT h
    exact busy call cc hc T q st K hT (wants_none hg) h
  · rename_i g hg
    split
    · rename_i t ht
      refine withTmp_ok (k := fun gt _ => ⟨grR gt g.2 c.run p⟩) (t := t) (fun c : CI => ∀ call cc, CallLaw cc call → ∀ T q st K, RelT T q → c.run cc K q st = true →
        ∃ v st' T' q', stepF P G call ops o T st = some (v, st') ∧ (wants ops o T = true → X T v q) ∧ (∀ (β : Type) (k : Tr AV → Option β), putF N o.dst v T k = k T') ∧ RelT T' q' ∧ K q' st' = true) (fun _ _ _ _ _ _ _ _ h => by cases h) fun gt _ hgt _ => ?_
      intro call cc hc T q st K hT h
      have hw : wants ops o T = wantV g.2 (getN t q) := by rw [wants_some hg ht, hT t]
      replace h : wantC (gt q) g.2 (c.run cc K q st) (p q (.tup []) K st) = true := h
      rw [hgt q] at h
      rcases wantC_ok h with ⟨h1, h2⟩ | ⟨h1, h2⟩
      · exact busy call cc hc T q st K hT (hw.trans h1) h2
      · exact idle call T q st K hT (hw.trans h1) h2
    · rename_i ht
      intro call cc hc T q st K hT h
      exact idle call T q st K hT (wants_lost hg ht) h
theorem comp_ok (P : Program) (G : Env) (N : Nat) (ops : List Oper) (o : Oper) : RunOk P G N ops o (compC P G N ops o).run := by
 refine withP_ok (fun c : CI => RunOk P G N ops o c.run) (fun _ _ _ _ _ _ _ _ h => by cases h) fun p hp => ?_
 intro call cc hc T q st K hT h
 obtain ⟨v, st', T', q', h1, _, h3⟩ := guard_ok hp (fun _ _ _ => True) (fun call cc hc T q st K hT h => by
  obtain ⟨v, st', T', q', h1, h2⟩ := inner_ok P G N o p hp call cc hc T q st K hT h
  exact ⟨v, st', T', q', h1, trivial, h2⟩) call cc hc T q st K hT h
 exact ⟨v, st', T', q', h1, h3⟩
theorem reg_ok (P : Program) (G : Env) (N : Nat) (ops : List Oper) {call : CallF} {cc : CallC} (hc : CallLaw cc call) (K : KB) : ∀ (l : List Oper) (T : Tr AV) (q : Q2) (st : St), RelT T q → regC (mapL (compC P G N ops) l) cc K q st = true →
  ∃ T' st' q', regS P G call N ops l T st = some (T', st') ∧ RelT T' q' ∧ K q' st' = true := by
 intro l
 induction l with
 | nil => intro T q st hT h; exact ⟨T, st, q, rfl, hT, h⟩
 | cons o l ih =>
  intro T q st hT h
  replace h : (compC P G N ops o).run cc (regC (mapL (compC P G N ops) l) cc K) q st = true := h
  obtain ⟨v, st', T', q', h1, h2, h3, h4⟩ := comp_ok P G N ops o call cc hc T q st _ hT h
  obtain ⟨T2, st2, q2, k1, k2, k3⟩ := ih T' q' st' h3 h4
  refine ⟨T2, st2, q2, ?_, k2, k3⟩
  show ob (stepF P G call ops o T st) _ = _
  rw [h1, ob_some, h2]
  exact k1

/-! A region that draws. -/
theorem loadA_of {P : Program} {t : TypeId} {pt : PartC} (hpt : ∀ l off kv, pt l off kv = true → ∃ v, partA P t l off = some v ∧ kv v = true) {x v : AV} : ∀ (n : Nat) (l : List St), againC pt x v n l = true →
  ∀ (G : Env) (o : Oper) (T : Tr AV) (a : Operand), o.op = .load t a → opd G T a = some x → again P G o T v n l = true := by
 intro n
 induction n with
 | zero => intro l h G o T a _ _; rfl
 | succ n ih =>
  intro l h G o T a ho ha
  cases l with
  | nil => cases h
  | cons st l =>
   replace h : bif' (loadC pt x st fun u => eqV u v) (againC pt x v n l) false = true := h
   cases hl : loadC pt x st fun u => eqV u v with
   | false => rw [hl] at h; cases h
   | true =>
    rw [hl] at h
    obtain ⟨u, h1, h2⟩ := loadC_ok hpt hl
    show bif' (match o.op with
     | .load t a => Option.rec false (fun x => Option.rec false (fun u => eqV u v) (loadA P t x st.h.get)) (opd G T a)
     | _ => false) (again P G o T v n l) false = true
    rw [ih l h G o T a ho ha, ho]
    show bif' (Option.rec false (fun x => Option.rec false (fun u => eqV u v) (loadA P t x st.h.get)) (opd G T a)) true false = true
    rw [ha]
    show bif' (Option.rec false (fun u => eqV u v) (loadA P t x st.h.get)) true false = true
    rw [h1]
    show bif' (eqV u v) true false = true
    rw [h2]
    rfl
/-- One step of a plan, in both. -/
def StepD (P : Program) (G : Env) (N : Nat) (ops : List Oper) (q : Nat × Oper × Nat) (d : DI) : Prop := ∀ call cc, CallLaw cc call → ∀ T e st sn (kk : List St → KB), RelT T e → DI.rec (motive := fun _ => (List St → KB) → CallC → List St → KB) dPlain dAct dRead d kk cc sn e st = true →
  ∃ v st' T' e', stepF P G call ops q.2.1 T st = some (v, st') ∧ bif' (wants ops q.2.1 T) (again P G q.2.1 T v q.2.2 (List.rec [] (fun _ t _ => t) sn)) true = true ∧
    (∀ (β : Type) (k : Tr AV → Option β), putF N q.2.1.dst v T k = k T') ∧ RelT T' e' ∧ kk (bif' (Nat.beq (kindA P q.2.1.op) 3) (st' :: sn) sn) e' st' = true
theorem stepD_ok (P : Program) (G : Env) (N : Nat) (ops : List Oper) (q : Nat × Oper × Nat) : StepD P G N ops q (compD P G N ops q) := by
 obtain ⟨i, o, n⟩ := q
 unfold compD
 cases hn : Nat.beq n 0 with
 | true =>
  have hn0 : n = 0 := Nat.eq_of_beq_eq_true hn
  subst hn0
  rw [bif_true]
  have agz : ∀ T v l, bif' (wants ops o T) (again P G o T v 0 l) true = true := fun T v l => by cases wants ops o T <;> rfl
  cases hk : Nat.beq (kindA P o.op) 3 with
  | true =>
   rw [bif_true]
   intro call cc hc T e st sn kk hT h
   obtain ⟨v, st', T', e', h1, h2, h3, h4⟩ := comp_ok P G N ops o call cc hc T e st _ hT h
   exact ⟨v, st', T', e', h1, agz _ _ _, h2, h3, by simp only [hk, bif_true]; exact h4⟩
  | false =>
   rw [bif_false]
   intro call cc hc T e st sn kk hT h
   obtain ⟨v, st', T', e', h1, h2, h3, h4⟩ := comp_ok P G N ops o call cc hc T e st _ hT h
   exact ⟨v, st', T', e', h1, agz _ _ _, h2, h3, by simp only [hk, bif_false]; exact h4⟩
 | false =>
  rw [bif_false]
  have nope : StepD P G N ops (i, o, n) (.plain badCI) := fun _ _ _ _ _ _ _ _ _ h => by cases h
  simp only
  split
  ·rename_i t a ho
   intro call cc hc T e st sn kk hT h
   have hk : Nat.beq (kindA P o.op) 3 = false := by rw [ho]; rfl
   have key : ∀ call cc, CallLaw cc call → ∀ T e st K, RelT T e → CI.run (withP N o.dst fun p => guardC ops o p (withPart P t badCI fun pt => withG G a badCI fun g => ⟨rdR pt n g p sn⟩)) cc K e st = true →
     ∃ v st' T' e', stepF P G call ops o T st = some (v, st') ∧ (wants ops o T = true → again P G o T v n (List.rec [] (fun _ t _ => t) sn) = true) ∧ (∀ (β : Type) (k : Tr AV → Option β), putF N o.dst v T k = k T') ∧ RelT T' e' ∧ K e' st' = true := by
    refine withP_ok (fun c : CI => ∀ call cc, CallLaw cc call → ∀ T e st K, RelT T e → c.run cc K e st = true →
     ∃ v st' T' e', stepF P G call ops o T st = some (v, st') ∧ (wants ops o T = true → again P G o T v n (List.rec [] (fun _ t _ => t) sn) = true) ∧ (∀ (β : Type) (k : Tr AV → Option β), putF N o.dst v T k = k T') ∧ RelT T' e' ∧ K e' st' = true) (fun _ _ _ _ _ _ _ _ h => by cases h) fun p hp => ?_
    refine guard_ok hp (fun T v _ => again P G o T v n (List.rec [] (fun _ t _ => t) sn) = true) ?_
    refine part_ok (fun c : CI => ∀ call cc, CallLaw cc call → ∀ T q st K, RelT T q → c.run cc K q st = true →
     ∃ v st' T' q', opF P (opd G T) call o st = some (v, st') ∧ again P G o T v n (List.rec [] (fun _ t _ => t) sn) = true ∧ (∀ (β : Type) (k : Tr AV → Option β), putF N o.dst v T k = k T') ∧ RelT T' q' ∧ K q' st' = true) (fun _ _ _ _ _ _ _ _ h => by cases h) fun pt hpt => ?_
    refine withG_ok (fun c : CI => ∀ call cc, CallLaw cc call → ∀ T q st K, RelT T q → c.run cc K q st = true →
     ∃ v st' T' q', opF P (opd G T) call o st = some (v, st') ∧ again P G o T v n (List.rec [] (fun _ t _ => t) sn) = true ∧ (∀ (β : Type) (k : Tr AV → Option β), putF N o.dst v T k = k T') ∧ RelT T' q' ∧ K q' st' = true) (fun _ _ _ _ _ _ _ _ h => by cases h) fun g hg => ?_
    intro call cc hc T q st K hT h
    obtain ⟨v, h1, h2⟩ := loadC_ok hpt h
    cases hag : againC pt (g q) v n (List.rec [] (fun _ t _ => t) sn) with
    | false => rw [hag] at h2; cases h2
    | true =>
     rw [hag] at h2
     obtain ⟨T', q', k1, k2, k3⟩ := hp T q v K st hT h2
     refine ⟨v, st, T', q', ?_, loadA_of hpt n _ hag G o T a ho (hg T q hT), k1, k2, k3⟩
     unfold opF
     rw [ho]
     show ob (opd G T a) (fun x => ret (loadA P t x st.h.get) st) = _
     rw [hg T q hT, ob_some, h1]
     rfl
   obtain ⟨v, st', T', e', h1, h2, h3, h4, h5⟩ := key call cc hc T e st _ hT h
   refine ⟨v, st', T', e', h1, ?_, h3, h4, by simp only [hk, bif_false]; exact h5⟩
   show bif' (wants ops o T) (again P G o T v n (List.rec [] (fun _ t _ => t) sn)) true = true
   cases hw : wants ops o T with
   | false => rfl
   | true => exact h2 hw
  ·exact nope
theorem runD_ok (P : Program) (G : Env) (N : Nat) (ops : List Oper) {call : CallF} {cc : CallC} (hc : CallLaw cc call) (K : KB) : ∀ (l : List (Nat × Oper × Nat)) (T : Tr AV) (q : Q2) (st : St) (sn : List St), RelT T q → runD (mapL (compD P G N ops) l) cc K sn q st = true →
  ∃ T' st' q', regD P G call N ops l T st sn = some (T', st') ∧ RelT T' q' ∧ K q' st' = true := by
 intro l
 induction l with
 | nil => intro T q st sn hT h; exact ⟨T, st, q, rfl, hT, h⟩
 | cons o l ih =>
  intro T q st sn hT h
  obtain ⟨v, st', T', q', h1, h2, h3, h4, h5⟩ := stepD_ok P G N ops o call cc hc T q st sn (runD (mapL (compD P G N ops) l) cc K) hT h
  obtain ⟨T2, st2, q2, k1, k2, k3⟩ := ih T' q' st' _ h4 h5
  refine ⟨T2, st2, q2, ?_, k2, k3⟩
  show ob (stepF P G call ops o.2.1 T st) _ = _
  rw [h1, ob_some]
  show need (bif' (wants ops o.2.1 T) (again P G o.2.1 T v o.2.2 (List.rec [] (fun _ t _ => t) sn)) true) _ = _
  rw [h2, need_true', h3]
  exact k1

/-! Code. -/
def endOf (x : Ex) (E : Nat → KB) (R K : KB) : KB := match x with
 | .nor => K
 | .exit i => E i
 | .ret => R
def CodeOk (f : Tr AV → St → Option (Ex × Tr AV × St)) (call : CallF) (b : CodeB) : Prop := ∀ cc, CallLaw cc call → ∀ E R K T q st, RelT T q → b cc E R K q st = true → ∃ x T' st' q', f T st = some (x, T', st') ∧ RelT T' q' ∧ endOf x E R K q' st' = true
theorem range_ok {P : Program} {G : Env} {N L : Nat} {call : CallF} {a b : CC} {fa fb : Tr AV → St → Option (Ex × Tr AV × St)} {g : Operand} {x y : Tmp} {gg : Q2 → AV} {p1 p2 : Put} (hg : GetOk G g gg) (hp1 : PutOk N (some x) p1) (hp2 : PutOk N (some y) p2)
  (ha : CodeOk fa call (runK L a)) (hb : CodeOk fb call (runK L b)) {cc : CallC} (hc : CallLaw cc call) {E : Nat → KB} {R K : KB} {T : Tr AV} {q : Q2} {st : St} (hT : RelT T q) (h : runK L (.range (hdC P G) gg p1 p2 a b) cc E R K q st = true) :
  ∃ e T' st' q', rangeF P G N g [x, y] true fa fb T st = some (e, T', st') ∧ RelT T' q' ∧ endOf e E R K q' st' = true := by
 replace h : hdC P G (gg q) st (fun n el => Nat.rec (motive := fun _ => St → Bool) (fun st => K q st) (fun i ih st => el i st fun v => p1 q (.int .i64 (Int.ofNat i)) (fun T1 st => p2 T1 v (fun T2 st => runK L a cc (fun _ _ _ => false) (fun _ _ => false) (fun T3 st => runK L b cc (fun id _ st => E id q st) (fun _ st => R q st) (fun _ st => tl (ih st)) T3 st) T2 st) st) st) n st) = true := h
 unfold rangeF
 rw [hg T q hT, need_true', ob_some]
 unfold hdC at h
 split at h
 ·rename_i f first cap hv
  rw [hv]
  replace h := obB_eq h
  obtain ⟨qq, hq, h⟩ := h
  simp only [hq, ob_some]
  split at h
  ·split at h
   ·rename_i cap
    replace h := obB_eq h
    obtain ⟨s, hs, h⟩ := h
    replace h := obB_eq h
    obtain ⟨nv, hl, h⟩ := h
    simp only [hs, ob_some, hl]
    split at h
    ·rename_i k n
     cases n with
     | negSucc n => cases h
     | ofNat n =>
      simp only [toN_ofNat, ob_some]
      unfold hdN at h
      simp only at h
      cases hm : Nat.ble n i64most with
      | false => rw [hm] at h; cases h
      | true =>
       rw [hm] at h
       rw [need_true']
       simp only at h
       clear hl hs hm hv hq
       revert st
       induction n with
       | zero => intro st h; exact ⟨.nor, T, st, q, rfl, hT, h⟩
       | succ n ih =>
        intro st h
        replace h : elC P qq cap n st (fun v => p1 q (.int .i64 (Int.ofNat n)) (fun T1 st => p2 T1 v (fun T2 st => runK L a cc (fun _ _ _ => false) (fun _ _ => false) (fun T3 st => runK L b cc (fun id _ st => E id q st) (fun _ st => R q st) (fun _ st => tl (Nat.rec (motive := fun _ => St → Bool) (fun st => K q st) (fun i ih st => elC P qq cap i st fun v => p1 q (.int .i64 (Int.ofNat i)) (fun T1 st => p2 T1 v (fun T2 st => runK L a cc (fun _ _ _ => false) (fun _ _ => false) (fun T3 st => runK L b cc (fun id _ st => E id q st) (fun _ st => R q st) (fun _ st => tl (ih st)) T3 st) T2 st) st) st) n st)) T3 st) T2 st) st) st) = true := h
        unfold elC at h
        replace h := obB_eq h
        obtain ⟨s, hs, h⟩ := h
        replace h := obB_eq h
        obtain ⟨ad, had, h⟩ := h
        replace h := obB_eq h
        obtain ⟨v, hv, h⟩ := h
        obtain ⟨T1, q1, k1, r1, h⟩ := hp1 T q _ _ _ hT h
        obtain ⟨T2, q2, k2, r2, h⟩ := hp2 T1 q1 _ _ _ r1 h
        obtain ⟨e, T3, st3, q3, c1, r3, h⟩ := ha cc hc _ _ _ T2 q2 _ r2 h
        cases e with
        | exit i => cases h
        | ret => cases h
        | nor =>
         obtain ⟨e, T4, st4, q4, c2, r4, h⟩ := hb cc hc _ _ _ T3 q3 _ r3 h
         have e0 : backF P N qq.1 qq.2 cap [x, y] fa fb T (n + 1) st = Ex.rec (tl (backF P N qq.1 qq.2 cap [x, y] fa fb T n st4)) (fun id => some (.exit id, T, st4)) (some (.ret, T, st4)) e := by
          show (ob (loadA P qq.1 cap st.h.get) fun s => ob (indexAddrA P qq.1 s (.int .i64 (Int.ofNat n))) fun q => ob (loadA P qq.2 q st.h.get) fun v => back1 N [x, y] (.int .i64 (Int.ofNat n)) v T fun T1 => ob (fa T1 st) fun r => Ex.rec (ob (fb r.2.1 r.2.2) fun q => Ex.rec (tl (backF P N qq.1 qq.2 cap [x, y] fa fb T n q.2.2)) (fun id => some (.exit id, T, q.2.2)) (some (.ret, T, q.2.2)) q.1) (fun _ => none) none r.1) = _
          rw [hs, ob_some, had, ob_some, hv, ob_some]
          show putF N (some x) _ T _ = _
          rw [k1, k2, c1, ob_some]
          show (ob (fb T3 st3) _) = _
          rw [c2, ob_some]
         cases e with
         | nor =>
          obtain ⟨e, T5, st5, q5, d1, d2, d3⟩ := ih h
          exact ⟨e, T5, st5, q5, by rw [e0]; exact d1, d2, d3⟩
         | exit id => exact ⟨.exit id, T, st4, q, e0, hT, h⟩
         | ret => exact ⟨.ret, T, st4, q, e0, hT, h⟩
    ·cases h
   ·cases h
  ·cases h
 ·cases h
theorem code_ok (P : Program) (G : Env) (N L : Nat) (call : CallF) : ∀ c : Code, CodeOk (codeF P G call N L c) call (runK L (compK P G N c)) := by
 have nope : ∀ f, CodeOk f call (runK L .bad) := fun f _ _ _ _ _ _ _ _ _ h => by cases h
 intro c
 induction c with
 | skip => intro cc hc E R K T q st hT h; exact ⟨.nor, T, st, q, rfl, hT, h⟩
 | region id ops draw =>
  cases draw with
  | false =>
   intro cc hc E R K T q st hT h
   obtain ⟨T', st', q', h1, h2, h3⟩ := reg_ok P G N ops.toList hc K ops.toList T q st hT h
   refine ⟨.nor, T', st', q', ?_, h2, h3⟩
   show (ob (regS P G call N ops.toList ops.toList T st) fun r => some (Ex.nor, r)) = _
   rw [h1]
   rfl
  | true =>
   have e : compK P G N (.region id ops true) = Option.rec .bad (fun pl => .regD (mapL (compD P G N ops.toList) pl)) (planOf P ops.toList) := rfl
   rw [e]
   cases hpl : planOf P ops.toList with
   | none => exact nope _
   | some pl =>
    intro cc hc E R K T q st hT h
    obtain ⟨T', st', q', h1, h2, h3⟩ := runD_ok P G N ops.toList hc K pl T q st [st] hT h
    refine ⟨.nor, T', st', q', ?_, h2, h3⟩
    show (ob (planOf P ops.toList) fun pl => ob (regD P G call N ops.toList pl T st [st]) fun r => some (Ex.nor, r)) = _
    rw [hpl, ob_some, h1]
    rfl
 | seq a b ha hb =>
  intro cc hc E R K T q st hT h
  obtain ⟨x, T', st', q', h1, h2, h3⟩ := ha cc hc E R (runK L (compK P G N b) cc E R K) T q st hT h
  have e : codeF P G call N L (.seq a b) T st = thenF (codeF P G call N L a T st) (codeF P G call N L b) := rfl
  cases x with
  | nor =>
   obtain ⟨x, T2, st2, q2, k1, k2, k3⟩ := hb cc hc E R K T' q' st' h2 h3
   exact ⟨x, T2, st2, q2, by rw [e, h1]; exact k1, k2, k3⟩
  | exit i => exact ⟨.exit i, T', st', q', by rw [e, h1]; rfl, h2, h3⟩
  | ret => exact ⟨.ret, T', st', q', by rw [e, h1]; rfl, h2, h3⟩
 | cond c a b ha hb =>
  show CodeOk _ call (runK L (withG G c .bad fun g => .cond g (compK P G N a) (compK P G N b)))
  refine withG_ok (fun d : CC => CodeOk (codeF P G call N L (.cond c a b)) call (runK L d)) (nope _) fun g hg => ?_
  intro cc hc E R K T q st hT h
  replace h : condC (g q) (runK L (compK P G N a) cc E R K) (runK L (compK P G N b) cc E R K) q st = true := h
  have e : codeF P G call N L (.cond c a b) T st = condF (opd G T c) (codeF P G call N L a T st) (codeF P G call N L b T st) := rfl
  rw [hg T q hT] at e
  cases hv : g q with
  | bool t =>
   rw [hv] at h e
   cases t with
   | true =>
    obtain ⟨x, T', st', q', h1, h2, h3⟩ := ha cc hc E R K T q st hT h
    exact ⟨x, T', st', q', by rw [e]; exact h1, h2, h3⟩
   | false =>
    obtain ⟨x, T', st', q', h1, h2, h3⟩ := hb cc hc E R K T q st hT h
    exact ⟨x, T', st', q', by rw [e]; exact h1, h2, h3⟩
  | _ => rw [hv] at h; cases h
 | block id b hb =>
  intro cc hc E R K T q st hT h
  obtain ⟨x, T', st', q', h1, h2, h3⟩ := hb cc hc (fun i => bif' (Nat.beq i id) K (E i)) R K T q st hT h
  have e : codeF P G call N L (.block id b) T st = blockF id (codeF P G call N L b T st) := rfl
  cases x with
  | nor => exact ⟨.nor, T', st', q', by rw [e, h1]; rfl, h2, h3⟩
  | ret => exact ⟨.ret, T', st', q', by rw [e, h1]; rfl, h2, h3⟩
  | exit i =>
   replace h3 : bif' (Nat.beq i id) K (E i) q' st' = true := h3
   cases hi : Nat.beq i id with
   | true => rw [hi] at h3; exact ⟨.nor, T', st', q', by rw [e, h1]; show bif' (Nat.beq i id) _ _ = _; rw [hi]; rfl, h2, h3⟩
   | false => rw [hi] at h3; exact ⟨.exit i, T', st', q', by rw [e, h1]; show bif' (Nat.beq i id) _ _ = _; rw [hi]; rfl, h2, h3⟩
 | loop b hb =>
  intro cc hc E R K T q st hT h
  have key : ∀ n T q st, RelT T q → Nat.rec (motive := fun _ => KB) (fun _ _ => false) (fun _ ih => runK L (compK P G N b) cc E R ih) n q st = true →
    ∃ x T' st' q', Nat.rec (motive := fun _ => Tr AV → St → Option (Ex × Tr AV × St)) (fun _ _ => none) (fun _ ih T st => thenF (codeF P G call N L b T st) ih) n T st = some (x, T', st') ∧ RelT T' q' ∧ endOf x E R K q' st' = true := by
   intro n
   induction n with
   | zero => intro T q st hT h; cases h
   | succ n ih =>
    intro T q st hT h
    obtain ⟨x, T', st', q', h1, h2, h3⟩ := hb cc hc E R _ T q st hT h
    cases x with
    | nor =>
     obtain ⟨x, T2, st2, q2, k1, k2, k3⟩ := ih T' q' st' h2 h3
     refine ⟨x, T2, st2, q2, ?_, k2, k3⟩
     show thenF (codeF P G call N L b T st) _ = _
     rw [h1]
     exact k1
    | exit i => exact ⟨.exit i, T', st', q', by show thenF (codeF P G call N L b T st) _ = _; rw [h1]; rfl, h2, h3⟩
    | ret => exact ⟨.ret, T', st', q', by show thenF (codeF P G call N L b T st) _ = _; rw [h1]; rfl, h2, h3⟩
  exact key L T q st hT h
 | rangeFunc g ps a b ha hb =>
  show CodeOk _ call (runK L (compR P G N g ps.toList (bif' (plainC a) (plainC b) false) (compK P G N a) (compK P G N b)))
  have e : codeF P G call N L (.rangeFunc g ps a b) = rangeF P G N g ps.toList (bif' (plainC a) (plainC b) false) (codeF P G call N L a) (codeF P G call N L b) := rfl
  rw [e]
  unfold compR
  split
  ·rename_i x y hps
   rw [hps]
   cases hpl : bif' (plainC a) (plainC b) false with
   | false => exact nope _
   | true =>
    refine withG_ok (fun d : CC => CodeOk _ call (runK L d)) (nope _) fun gg hg => ?_
    refine withPB_ok (fun d : CC => CodeOk _ call (runK L d)) (nope _) fun p1 hp1 => ?_
    refine withPB_ok (fun d : CC => CodeOk _ call (runK L d)) (nope _) fun p2 hp2 => ?_
    intro cc hc E R K T q st hT h
    exact range_ok hg hp1 hp2 ha hb hc hT h
  ·exact nope _
 | exit id => intro cc hc E R K T q st hT h; exact ⟨.exit id, T, st, q, rfl, hT, h⟩
 | ret => intro cc hc E R K T q st hT h; exact ⟨.ret, T, st, q, rfl, hT, h⟩
 | label id => intro cc hc E R K T q st hT h; exact ⟨.nor, T, st, q, rfl, hT, h⟩
 | _ => exact nope _

/-! Calls. -/
theorem args_ok : ∀ (l : List AV) (i : Nat) (T : Tr AV) (q : Q2) (K : KB) (st : St), RelT T q → argsC l i q K st = true → ∃ T' q', (∀ (β : Type) (k : Tr AV → β), List.rec (motive := fun _ => Nat → Tr AV → β) (fun (_ : Nat) T => k T) (fun v _ ih i T => T.put i v (ih (i + 1))) l i T = k T') ∧ RelT T' q' ∧ K q' st = true := by
 intro l
 induction l with
 | nil => intro i T q K st hT h; exact ⟨T, q, fun _ _ => rfl, hT, h⟩
 | cons v l ih =>
  intro i T q K st hT h
  replace h : (putAt i).put q v (fun T st => argsC l (Nat.succ i) T K st) st = true := h
  have key : ∀ q K st, (putAt i).put q v K st = true → ∃ q', K q' st = true ∧ ∀ u, getN u q' = if u = i then v else getN u q := by
   refine withTmp_ok (k := fun _ p => PutBox.mk p) (t := i) (fun b : PutBox => ∀ q K st, b.put q v K st = true → ∃ q', K q' st = true ∧ ∀ u, getN u q' = if u = i then v else getN u q) (fun _ _ _ h => by cases h) fun g p _ hp => ?_
   intro q K st h
   obtain ⟨q', e, hq⟩ := hp q v K st
   exact ⟨q', by rw [← e]; exact h, hq⟩
  obtain ⟨q', h1, h2⟩ := key q _ st h
  obtain ⟨T', q2, k1, k2, k3⟩ := ih (i + 1) (T.set i v) q' K st (fun u => by rw [tget_set, h2, hT u]) h1
  refine ⟨T', q2, fun β k => ?_, k2, k3⟩
  show T.put i v _ = _
  rw [Tr.put_eq]
  exact k1 β k
theorem zero_rel : RelT .nil .zero := by
 intro t
 have e : tget .nil t = .tup [] := rfl
 rw [e]
 unfold getN
 split
 ·rename_i i _
  split
  ·rename_i j _
   cases i <;> cases j <;> rfl
  ·rfl
 ·rfl
theorem res_ok {P : Program} {T : Tr AV} {q : Q2} {st : St} (hT : RelT T q) {r : ResultVar} {k : KV} (h : resC P q st r k = true) : ∃ v, resF P T st r = some v ∧ k v = true := by
 cases r with
 | tmp t => exact ⟨getN t q, congrArg some (hT t), h⟩
 | cell a t =>
  obtain ⟨v, h1, h2⟩ := obB_eq h
  exact ⟨v, by show loadA P t (tget T a) st.h.get = _; rw [hT a]; exact h1, h2⟩
theorem resultsC_ok {P : Program} {T : Tr AV} {q : Q2} {st : St} (hT : RelT T q) : ∀ (l : List ResultVar) (k : List AV → Bool), resultsC P l q st k = true → ∃ vs, mapO (resF P T st) l = some vs ∧ k vs = true := by
 intro l
 induction l with
 | nil => intro k h; exact ⟨[], rfl, h⟩
 | cons r l ih =>
  intro k h
  replace h : resC P q st r (fun v => resultsC P l q st fun l => k (v :: l)) = true := h
  obtain ⟨v, h1, h⟩ := res_ok hT h
  obtain ⟨vs, h2, h⟩ := ih _ h
  exact ⟨v :: vs, by rw [mapO_cons, h1, ob_some, h2, ob_some], h⟩
theorem end_ok {P : Program} {res : List ResultVar} {T : Tr AV} {q : Q2} {st : St} (hT : RelT T q) {k : AV → St → Bool} (h : endK P res k q st = true) : ∃ v, resultsF P res T st = some v ∧ k v st = true := by
 obtain ⟨vs, h1, h2⟩ := resultsC_ok hT res _ h
 refine ⟨_, ?_, h2⟩
 unfold resultsF
 rw [h1, ob_some]
 cases vs with
 | nil => rfl
 | cons v t => cases t <;> rfl
theorem call_law (P : Program) (G : Env) (L : Nat) : ∀ fuel, CallLaw (callC P G L fuel) (callF P G L fuel) := by
 intro fuel
 induction fuel with
 | zero => intro f args st k h; cases h
 | succ n ih =>
  intro f args st k h
  replace h : (Option.rec (obB (compF P G f) fun q => tl (callB P L q (callC P G L n) args st k)) (fun sm => obB (sm args st) fun r => k r.1 r.2) (G.s f) : Bool) = true := h
  have e0 : callF P G L (n + 1) f args st = (Option.rec (ob (fnOf P f) fun q => need (Nat.ble (lenL args) q.2.1) (argsF args fun T => endF (codeF P G (callF P G L n) q.2.1 L q.1 T st) fun T st => ob (resultsF P q.2.2 T st) fun v => some (v, st))) (fun sm => sm args st) (G.s f) : Option (AV × St)) := rfl
  rw [e0]
  cases hsm : G.s f with
  | some sm =>
   rw [hsm] at h
   obtain ⟨⟨v, st'⟩, h1, h2⟩ := obB_eq h
   exact ⟨v, st', h1, h2⟩
  | none =>
  rw [hsm] at h
  obtain ⟨fn, h1, h⟩ := obB_eq h
  replace h : callB P L fn (callC P G L n) args st k = true := h
  replace h1 := ob_eq h1
  obtain ⟨q, hq, h1⟩ := h1
  obtain ⟨_, h1⟩ := need_eq h1
  injection h1 with h1
  subst h1
  show ∃ v st', (ob (fnOf P f) fun q => need (Nat.ble (lenL args) q.2.1) (argsF args fun T => endF (codeF P G (callF P G L n) q.2.1 L q.1 T st) fun T st => ob (resultsF P q.2.2 T st) fun v => some (v, st))) = some (v, st') ∧ k v st' = true
  rw [hq, ob_some]
  unfold callB at h
  simp only at h
  cases hb : Nat.ble (lenL args) q.2.1 with
  | false => rw [hb] at h; cases h
  | true =>
   rw [hb] at h
   rw [need_true']
   obtain ⟨T, q1, k1, k2, k3⟩ := args_ok args 0 .nil .zero _ st zero_rel h
   have e : ∀ (β : Type) (k : Tr AV → β), argsF args k = k T := fun β k => k1 β k
   rw [e]
   obtain ⟨x, T', st', q', c1, c2, c3⟩ := code_ok P G q.2.1 L (callF P G L n) q.1 (callC P G L n) ih _ _ _ T q1 st k2 k3
   rw [c1]
   cases x with
   | exit i => cases c3
   | nor =>
    obtain ⟨v, r1, r2⟩ := end_ok c2 c3
    refine ⟨v, st', ?_, r2⟩
    show ob (resultsF P q.2.2 T' st') _ = _
    rw [r1]
    rfl
   | ret =>
    obtain ⟨v, r1, r2⟩ := end_ok c2 c3
    refine ⟨v, st', ?_, r2⟩
    show ob (resultsF P q.2.2 T' st') _ = _
    rw [r1]
    rfl

/-- What the swift reckoner finds true the reckoner finds true. -/
theorem callC_true {P : Program} {G : Env} {f : FuncId} {args : List AV} {L fuel : Nat} {st : St} (h : callC P G L fuel f args st truthC = true) : isTrue (callF P G L fuel f args st) = true := by
  obtain ⟨v, st', h1, h2⟩ := call_law P _ L fuel f args _ _ h
  rw [h1]
  cases v <;> first | exact h2 | cases h2

end Go.Proofs.YtiknomepbklibaaGreatDoor
end
