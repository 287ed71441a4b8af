/-
  One, shifted to the left.
-/
import Derived.Test.YtiknomepbklibaaDoorPcSy2
namespace Go.Proofs.YtiknomepbklibaaDoor
open Go Go.RowKit
set_option linter.unusedVariables false

theorem pow_nat (n : Nat) : ((2 ^ n : Nat) : Int) = (2 : Int) ^ n := by rw [Int.natCast_pow]; rfl
theorem pow_le62 {n : Nat} (h : n ≤ 62) : 2 ^ n ≤ 4611686018427387904 := Nat.le_trans (Nat.pow_le_pow_right (by decide) h) (by decide)
theorem os_shl1 {P : Program} {G : Env} {K : List (Nat × AV)} {st : St} {t yt : TypeId} {x y : Operand} {k : IntKind} {n : Nat} (hx : opK G K x = some (.int .i64 1)) (hy : opK G K y = some (.int k ((n : Nat) : Int))) (h : n ≤ 62) : OpS P G K (.binOp .shl t x y yt) st (.int .i64 ((2 ^ n : Nat) : Int)) st :=
 os_bin hx hy (by
  have hp : ((2 ^ n : Nat) : Int) ≤ 4611686018427387904 := Int.ofNat_le.2 (pow_le62 h)
  have hp0 : (0 : Int) ≤ ((2 ^ n : Nat) : Int) := Int.natCast_nonneg _
  show bif' (ltI ((n : Nat) : Int) 0) none (sInt (wrapF .i64 (1 * 2 ^ (min ((n : Nat) : Int).toNat 64))) fun z => some (AV.int .i64 z)) = _
  rw [ltI_eq, decide_eq_false (by omega), sInt_eq, wrapF_eq, Int.toNat_natCast, Nat.min_eq_left (by omega), Int.one_mul, ← pow_nat, wrap64 (Int.le_trans (by decide) hp0) (Int.le_trans hp (by decide))]; rfl)
end Go.Proofs.YtiknomepbklibaaDoor
