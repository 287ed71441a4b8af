/-
  One, shifted to the left.
-/
import Derived.Test.YtiknomepbklibaaDoorQtSy2
import Derived.Test.YtiknomepbklibaaDoorQtPoolS
section
namespace Go.Proofs.YtiknomepbklibaaDoor
open Go Go.RowKit
set_option linter.unusedVariables false

theorem pow_nat (n : Nat) : ((2 ^ n : Nat) : Int) = (2 : Int) ^ n := by rw [Int.natCast_pow]; rfl
theorem pow_le62 {n : Nat} (h : n ≤ 62) : 2 ^ n ≤ 4611686018427387904 := Nat.le_trans (Nat.pow_le_pow_right (by decide) h) (by decide)
theorem os_shl1 {P : Program} {G : Env} {K : List (Nat × AV)} {st : St} {t yt : TypeId} {x y : Operand} {k : IntKind} {n : Nat} (hx : opK G K x = some (.int .i64 1)) (hy : opK G K y = some (.int k ((n : Nat) : Int))) (h : n ≤ 62) : OpS P G K (.binOp .shl t x y yt) st (.int .i64 ((2 ^ n : Nat) : Int)) st :=
 os_bin hx hy (by
  have hp : ((2 ^ n : Nat) : Int) ≤ 4611686018427387904 := Int.ofNat_le.2 (pow_le62 h)
  have hp0 : (0 : Int) ≤ ((2 ^ n : Nat) : Int) := Int.natCast_nonneg _
  show bif' (ltI ((n : Nat) : Int) 0) none (sInt (wrapF .i64 (1 * 2 ^ (min ((n : Nat) : Int).toNat 64))) fun z => some (AV.int .i64 z)) = _
  rw [ltI_eq, decide_eq_false (by omega), sInt_eq, wrapF_eq, Int.toNat_natCast, Nat.min_eq_left (by omega), Int.one_mul, ← pow_nat, wrap64 (Int.le_trans (by decide) hp0) (Int.le_trans hp (by decide))]; rfl)
end Go.Proofs.YtiknomepbklibaaDoor
end
section
namespace Go.Proofs.YtiknomepbklibaaDoor
open Go Go.RowKit
set_option linter.unusedVariables false

section
variable {P : Program} {G : Env} {K : List (Nat × AV)} {st : St} {t yt : TypeId} {x y : Operand}
theorem bv_nat {a : Nat} (ha : a ≤ 9223372036854775807) : (BitVec.ofInt 64 ((a : Nat) : Int)).toNat = a := by
 rw [BitVec.ofInt_natCast, BitVec.toNat_ofNat]
 exact Nat.mod_eq_of_lt (by omega)
theorem os_andN {a b : Nat} (hx : opK G K x = some (.int .i64 ((a : Nat) : Int))) (hy : opK G K y = some (.int .i64 ((b : Nat) : Int))) (ha : a ≤ 9223372036854775807) (hb : b ≤ 9223372036854775807) : OpS P G K (.binOp .and t x y yt) st (.int .i64 ((a &&& b : Nat) : Int)) st :=
 os_bin hx hy (by
  rw [b2_int (by decide) (by decide)]
  show sInt (IntKind.i64.wrap (((BitVec.ofInt 64 ((a : Nat) : Int) &&& BitVec.ofInt 64 ((b : Nat) : Int)).toNat : Nat) : Int)) (fun z => some (AV.int .i64 z)) = _
  have h : a &&& b ≤ a := Nat.and_le_left
  rw [BitVec.toNat_and, bv_nat ha, bv_nat hb, sInt_eq, wrap64 (by omega) (by omega)])
theorem os_and1 {a : Nat} (hx : opK G K x = some (.int .i64 ((a : Nat) : Int))) (hy : opK G K y = some (.int .i64 1)) (ha : a ≤ 9223372036854775807) : OpS P G K (.binOp .and t x y yt) st (.int .i64 ((a % 2 : Nat) : Int)) st := by
 have := os_andN (P := P) (st := st) (t := t) (yt := yt) (b := 1) hx hy ha (by decide)
 rw [Nat.and_one_is_mod] at this
 exact this
theorem or_lt63 {a b : Nat} (ha : a ≤ 9223372036854775807) (hb : b ≤ 9223372036854775807) : a ||| b ≤ 9223372036854775807 := by
 have := Nat.or_lt_two_pow (n := 63) (show a < 2 ^ 63 by omega) (show b < 2 ^ 63 by omega)
 omega
theorem os_orN {a b : Nat} (hx : opK G K x = some (.int .i64 ((a : Nat) : Int))) (hy : opK G K y = some (.int .i64 ((b : Nat) : Int))) (ha : a ≤ 9223372036854775807) (hb : b ≤ 9223372036854775807) : OpS P G K (.binOp .or t x y yt) st (.int .i64 ((a ||| b : Nat) : Int)) st :=
 os_bin hx hy (by
  rw [b2_int (by decide) (by decide)]
  show sInt (IntKind.i64.wrap (((BitVec.ofInt 64 ((a : Nat) : Int) ||| BitVec.ofInt 64 ((b : Nat) : Int)).toNat : Nat) : Int)) (fun z => some (AV.int .i64 z)) = _
  have h := or_lt63 ha hb
  rw [BitVec.toNat_or, bv_nat ha, bv_nat hb, sInt_eq, wrap64 (by omega) (by omega)])
theorem os_shrN {k : IntKind} {a n : Nat} (hx : opK G K x = some (.int .i64 ((a : Nat) : Int))) (hy : opK G K y = some (.int k ((n : Nat) : Int))) (hn : n ≤ 62) : OpS P G K (.binOp .shr t x y yt) st (.int .i64 ((a / 2 ^ n : Nat) : Int)) st :=
 os_bin hx hy (by
  show bif' (ltI ((n : Nat) : Int) 0) none (sInt (((a : Nat) : Int).fdiv (2 ^ (min ((n : Nat) : Int).toNat 64))) fun z => some (AV.int .i64 z)) = _
  rw [ltI_eq, decide_eq_false (by omega), sInt_eq, Int.toNat_natCast, Nat.min_eq_left (by omega), ← pow_nat, ← Int.ofNat_fdiv]; rfl)
theorem os_shlN {k : IntKind} {a n : Nat} (hx : opK G K x = some (.int .i64 ((a : Nat) : Int))) (hy : opK G K y = some (.int k ((n : Nat) : Int))) (hn : n ≤ 62) (hb : a * 2 ^ n ≤ 9223372036854775807) : OpS P G K (.binOp .shl t x y yt) st (.int .i64 ((a * 2 ^ n : Nat) : Int)) st :=
 os_bin hx hy (by
  show bif' (ltI ((n : Nat) : Int) 0) none (sInt (wrapF .i64 (((a : Nat) : Int) * 2 ^ (min ((n : Nat) : Int).toNat 64))) fun z => some (AV.int .i64 z)) = _
  rw [ltI_eq, decide_eq_false (by omega), sInt_eq, wrapF_eq, Int.toNat_natCast, Nat.min_eq_left (by omega), ← pow_nat, ← Int.natCast_mul, wrap64 (by omega) (by omega)]; rfl)
theorem bit_div (c t : Nat) : (((c / 2 ^ t % 2 : Nat) : Int) = 1) ↔ c.testBit t = true := by
 rw [Nat.testBit_eq_decide_div_mod_eq, decide_eq_true_eq]
 omega
end
end Go.Proofs.YtiknomepbklibaaDoor
end
section
namespace Go.Proofs.YtiknomepbklibaaDoor
open Go Go.RowKit
set_option linter.unusedVariables false
set_option linter.unusedSimpArgs false
set_option linter.unnecessarySimpa false
set_option maxRecDepth 100000
set_option maxHeartbeats 1000000

theorem zClone_ev {st : St} (hf : Fresh st) {l : List Int} {kl : AV} (hl : RdR st.h.get [] 1 (zC l) kl) (hn : l.length ≤ 1000000000) : ∃ v st', Ev Tryd.prog envP 49 [kl] st v st' ∧ ∃ ks, v = ks ∧ NewR st st' 1 ks (zC l) ∧ Qt st st' := by
 have hcl := zC_len l
 refine ev_fn rfl Tryd.func49 rfl Tryd.ntmps49 rfl (by decide) (by simp) fun T hT => ?_
 have K : KnT [(0, _)] T := (.cons (hT 0) .nil)
 have M := Mem.start hf
 refine w_seq <| w_region <| o1 K (os_assign rfl) rfl fun _ K => wr_nil ?_
 show W _ _ _ _ _ _ _
 refine w_seq <| w_seq <| w_region <| o1 K (os_move rfl) rfl fun _ K => o1 K (os_eqNilA (hl.len.trans (congrArg some (zC_len _))) un_S_int rfl rfl) rfl fun _ K => wr_nil ?_
 show W _ _ _ _ _ _ _
 refine w_cond (K.opd rfl) (fun h4 => ?_) (fun h4 => ?_)
 ·have hb4 := h4
  refine w_seq <| w_region <| o1 K (os_assign rfl) rfl fun _ K => wr_nil ?_
  show W _ _ _ _ _ _ _
  refine w_ret ?_
  refine ⟨.inr rfl, _, (res_one (rs_tmp K rfl)), ?_⟩
  have hbl : l = [] := by
   have h := hl.len
   rw [nilB_eq h4] at h
   injection h with h
   rw [zC_len] at h
   exact nil_of_len h.symm
  exact ⟨.nils, rfl, ⟨[], by rw [hbl]; exact .none, fun _ _ _ h => by cases h⟩, M.qt⟩
 have hb4 := h4
 refine w_skip ?_
 show W _ _ _ _ _ _ _
 refine w_seq <| w_region ?_
 refine wr_bs K M sl_S_int ze_int rfl rfl rfl rfl rfl fun c5 _ _ K M => ?_
 refine o1 K (os_move rfl) rfl fun _ K => ?_
 replace M := Mem.cast (M' := ([(c5, 0, [])] ++ [])) (Mem.perm M (List.perm_append_comm (l₁ := [(c5, 0, [])]) (l₂ := []))) (by first | (simp only [List.append_assoc, List.cons_append, List.nil_append, List.append_nil, List.set_cons_zero, List.set_cons_succ]; done) | (simp only [List.append_assoc, List.cons_append, List.nil_append, List.append_nil, List.set_cons_zero, List.set_cons_succ]; rfl))
 have hA0c5 : Acc st.n 1 [(c5, 0, [])] (.sl c5 0 0 0 1) [] := Acc.own (n0 := st.n) (z := 1) (c := c5) (m := 0) (ls := []) ((M.own c5 0 [] (by simp)).resolve_right (by simp)) (by simp) (by simp)
 refine wr_accS (L := []) (A := [(c5, 0, [])]) (B := []) K M hA0c5 sl_S_int rfl rfl (RdR.mem M hl (by simp)) (zC_one _) (by simp only [List.length_nil]; omega) rfl fun ks7 A7 _ _ K hA7 M => ?_
 refine o1 K (os_assign rfl) rfl fun _ K => wr_nil ?_
 show W _ _ _ _ _ _ _
 refine w_ret ?_
 refine ⟨.inr rfl, _, (res_one (rs_tmp K rfl)), ?_⟩
 refine ⟨_, rfl, ?_, M.qt⟩
 have h := Mem.newR (L := []) (A := A7) (B := []) M hA7
 simpa using h

end Go.Proofs.YtiknomepbklibaaDoor
end
