/-
  Bits of numbers from 0 on.
-/
import Derived.Test.YtiknomepbklibaaDoorPcShl
namespace Go.Proofs.YtiknomepbklibaaDoor
open Go Go.RowKit
set_option linter.unusedVariables false

section
variable {P : Program} {G : Env} {K : List (Nat × AV)} {st : St} {t yt : TypeId} {x y : Operand}
theorem bv_nat {a : Nat} (ha : a ≤ 9223372036854775807) : (BitVec.ofInt 64 ((a : Nat) : Int)).toNat = a := by
 rw [BitVec.ofInt_natCast, BitVec.toNat_ofNat]
 exact Nat.mod_eq_of_lt (by omega)
theorem os_andN {a b : Nat} (hx : opK G K x = some (.int .i64 ((a : Nat) : Int))) (hy : opK G K y = some (.int .i64 ((b : Nat) : Int))) (ha : a ≤ 9223372036854775807) (hb : b ≤ 9223372036854775807) : OpS P G K (.binOp .and t x y yt) st (.int .i64 ((a &&& b : Nat) : Int)) st :=
 os_bin hx hy (by
  rw [b2_int (by decide) (by decide)]
  show sInt (IntKind.i64.wrap (((BitVec.ofInt 64 ((a : Nat) : Int) &&& BitVec.ofInt 64 ((b : Nat) : Int)).toNat : Nat) : Int)) (fun z => some (AV.int .i64 z)) = _
  have h : a &&& b ≤ a := Nat.and_le_left
  rw [BitVec.toNat_and, bv_nat ha, bv_nat hb, sInt_eq, wrap64 (by omega) (by omega)])
theorem os_and1 {a : Nat} (hx : opK G K x = some (.int .i64 ((a : Nat) : Int))) (hy : opK G K y = some (.int .i64 1)) (ha : a ≤ 9223372036854775807) : OpS P G K (.binOp .and t x y yt) st (.int .i64 ((a % 2 : Nat) : Int)) st := by
 have := os_andN (P := P) (st := st) (t := t) (yt := yt) (b := 1) hx hy ha (by decide)
 rw [Nat.and_one_is_mod] at this
 exact this
theorem or_lt63 {a b : Nat} (ha : a ≤ 9223372036854775807) (hb : b ≤ 9223372036854775807) : a ||| b ≤ 9223372036854775807 := by
 have := Nat.or_lt_two_pow (n := 63) (show a < 2 ^ 63 by omega) (show b < 2 ^ 63 by omega)
 omega
theorem os_orN {a b : Nat} (hx : opK G K x = some (.int .i64 ((a : Nat) : Int))) (hy : opK G K y = some (.int .i64 ((b : Nat) : Int))) (ha : a ≤ 9223372036854775807) (hb : b ≤ 9223372036854775807) : OpS P G K (.binOp .or t x y yt) st (.int .i64 ((a ||| b : Nat) : Int)) st :=
 os_bin hx hy (by
  rw [b2_int (by decide) (by decide)]
  show sInt (IntKind.i64.wrap (((BitVec.ofInt 64 ((a : Nat) : Int) ||| BitVec.ofInt 64 ((b : Nat) : Int)).toNat : Nat) : Int)) (fun z => some (AV.int .i64 z)) = _
  have h := or_lt63 ha hb
  rw [BitVec.toNat_or, bv_nat ha, bv_nat hb, sInt_eq, wrap64 (by omega) (by omega)])
theorem os_shrN {k : IntKind} {a n : Nat} (hx : opK G K x = some (.int .i64 ((a : Nat) : Int))) (hy : opK G K y = some (.int k ((n : Nat) : Int))) (hn : n ≤ 62) : OpS P G K (.binOp .shr t x y yt) st (.int .i64 ((a / 2 ^ n : Nat) : Int)) st :=
 os_bin hx hy (by
  show bif' (ltI ((n : Nat) : Int) 0) none (sInt (((a : Nat) : Int).fdiv (2 ^ (min ((n : Nat) : Int).toNat 64))) fun z => some (AV.int .i64 z)) = _
  rw [ltI_eq, decide_eq_false (by omega), sInt_eq, Int.toNat_natCast, Nat.min_eq_left (by omega), ← pow_nat, ← Int.ofNat_fdiv]; rfl)
theorem os_neB {a b : Bool} (ht : P.underlying t = some .bool) (hx : opK G K x = some (.bool a)) (hy : opK G K y = some (.bool b)) : OpS P G K (.binOp .neq t x y yt) st (.bool (!(a == b))) st :=
 os_bin hx hy (by
  show need (eqFits (P.underlying t) (.bool a)) (ob (eqNil (.bool a) (.bool b)) fun b => some (AV.bool !b)) = _
  rw [ht]
  cases a <;> cases b <;> rfl)
theorem bit_div (c t : Nat) : (((c / 2 ^ t % 2 : Nat) : Int) = 1) ↔ c.testBit t = true := by
 rw [Nat.testBit_eq_decide_div_mod_eq, decide_eq_true_eq]
 omega
end
end Go.Proofs.YtiknomepbklibaaDoor
