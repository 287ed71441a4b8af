/-
  One, shifted to the left.
-/
import Derived.Test.YtiknomepbklibaaGreatDoorZoSy2
import Derived.Test.YtiknomepbklibaaGreatDoorZoPoolS
section
namespace Go.Proofs.YtiknomepbklibaaGreatDoor
open Go Go.RowKit
set_option linter.unusedVariables false

theorem pow_nat (n : Nat) : ((2 ^ n : Nat) : Int) = (2 : Int) ^ n := by rw [Int.natCast_pow]; rfl
theorem pow_le62 {n : Nat} (h : n ≤ 62) : 2 ^ n ≤ 4611686018427387904 := Nat.le_trans (Nat.pow_le_pow_right (by decide) h) (by decide)
theorem os_shl1 {P : Program} {G : Env} {K : List (Nat × AV)} {st : St} {t yt : TypeId} {x y : Operand} {k : IntKind} {n : Nat} (hx : opK G K x = some (.int .i64 1)) (hy : opK G K y = some (.int k ((n : Nat) : Int))) (h : n ≤ 62) : OpS P G K (.binOp .shl t x y yt) st (.int .i64 ((2 ^ n : Nat) : Int)) st :=
 os_bin hx hy (by
  have hp : ((2 ^ n : Nat) : Int) ≤ 4611686018427387904 := Int.ofNat_le.2 (pow_le62 h)
  have hp0 : (0 : Int) ≤ ((2 ^ n : Nat) : Int) := Int.natCast_nonneg _
  show bif' (ltI ((n : Nat) : Int) 0) none (sInt (wrapF .i64 (1 * 2 ^ (min ((n : Nat) : Int).toNat 64))) fun z => some (AV.int .i64 z)) = _
  rw [ltI_eq, decide_eq_false (by omega), sInt_eq, wrapF_eq, Int.toNat_natCast, Nat.min_eq_left (by omega), Int.one_mul, ← pow_nat, wrap64 (Int.le_trans (by decide) hp0) (Int.le_trans hp (by decide))]; rfl)
end Go.Proofs.YtiknomepbklibaaGreatDoor
end
section
namespace Go.Proofs.YtiknomepbklibaaGreatDoor
open Go Go.RowKit
set_option linter.unusedVariables false

section
variable {P : Program} {G : Env} {K : List (Nat × AV)} {st : St} {t yt : TypeId} {x y : Operand}
theorem bv_nat {a : Nat} (ha : a ≤ 9223372036854775807) : (BitVec.ofInt 64 ((a : Nat) : Int)).toNat = a := by
 rw [BitVec.ofInt_natCast, BitVec.toNat_ofNat]
 exact Nat.mod_eq_of_lt (by omega)
theorem os_andN {a b : Nat} (hx : opK G K x = some (.int .i64 ((a : Nat) : Int))) (hy : opK G K y = some (.int .i64 ((b : Nat) : Int))) (ha : a ≤ 9223372036854775807) (hb : b ≤ 9223372036854775807) : OpS P G K (.binOp .and t x y yt) st (.int .i64 ((a &&& b : Nat) : Int)) st :=
 os_bin hx hy (by
  rw [b2_int (by decide) (by decide)]
  show sInt (IntKind.i64.wrap (((BitVec.ofInt 64 ((a : Nat) : Int) &&& BitVec.ofInt 64 ((b : Nat) : Int)).toNat : Nat) : Int)) (fun z => some (AV.int .i64 z)) = _
  have h : a &&& b ≤ a := Nat.and_le_left
  rw [BitVec.toNat_and, bv_nat ha, bv_nat hb, sInt_eq, wrap64 (by omega) (by omega)])
theorem os_and1 {a : Nat} (hx : opK G K x = some (.int .i64 ((a : Nat) : Int))) (hy : opK G K y = some (.int .i64 1)) (ha : a ≤ 9223372036854775807) : OpS P G K (.binOp .and t x y yt) st (.int .i64 ((a % 2 : Nat) : Int)) st := by
 have := os_andN (P := P) (st := st) (t := t) (yt := yt) (b := 1) hx hy ha (by decide)
 rw [Nat.and_one_is_mod] at this
 exact this
theorem or_lt63 {a b : Nat} (ha : a ≤ 9223372036854775807) (hb : b ≤ 9223372036854775807) : a ||| b ≤ 9223372036854775807 := by
 have := Nat.or_lt_two_pow (n := 63) (show a < 2 ^ 63 by omega) (show b < 2 ^ 63 by omega)
 omega
theorem os_orN {a b : Nat} (hx : opK G K x = some (.int .i64 ((a : Nat) : Int))) (hy : opK G K y = some (.int .i64 ((b : Nat) : Int))) (ha : a ≤ 9223372036854775807) (hb : b ≤ 9223372036854775807) : OpS P G K (.binOp .or t x y yt) st (.int .i64 ((a ||| b : Nat) : Int)) st :=
 os_bin hx hy (by
  rw [b2_int (by decide) (by decide)]
  show sInt (IntKind.i64.wrap (((BitVec.ofInt 64 ((a : Nat) : Int) ||| BitVec.ofInt 64 ((b : Nat) : Int)).toNat : Nat) : Int)) (fun z => some (AV.int .i64 z)) = _
  have h := or_lt63 ha hb
  rw [BitVec.toNat_or, bv_nat ha, bv_nat hb, sInt_eq, wrap64 (by omega) (by omega)])
theorem os_shrN {k : IntKind} {a n : Nat} (hx : opK G K x = some (.int .i64 ((a : Nat) : Int))) (hy : opK G K y = some (.int k ((n : Nat) : Int))) (hn : n ≤ 62) : OpS P G K (.binOp .shr t x y yt) st (.int .i64 ((a / 2 ^ n : Nat) : Int)) st :=
 os_bin hx hy (by
  show bif' (ltI ((n : Nat) : Int) 0) none (sInt (((a : Nat) : Int).fdiv (2 ^ (min ((n : Nat) : Int).toNat 64))) fun z => some (AV.int .i64 z)) = _
  rw [ltI_eq, decide_eq_false (by omega), sInt_eq, Int.toNat_natCast, Nat.min_eq_left (by omega), ← pow_nat, ← Int.ofNat_fdiv]; rfl)
theorem os_shlN {k : IntKind} {a n : Nat} (hx : opK G K x = some (.int .i64 ((a : Nat) : Int))) (hy : opK G K y = some (.int k ((n : Nat) : Int))) (hn : n ≤ 62) (hb : a * 2 ^ n ≤ 9223372036854775807) : OpS P G K (.binOp .shl t x y yt) st (.int .i64 ((a * 2 ^ n : Nat) : Int)) st :=
 os_bin hx hy (by
  show bif' (ltI ((n : Nat) : Int) 0) none (sInt (wrapF .i64 (((a : Nat) : Int) * 2 ^ (min ((n : Nat) : Int).toNat 64))) fun z => some (AV.int .i64 z)) = _
  rw [ltI_eq, decide_eq_false (by omega), sInt_eq, wrapF_eq, Int.toNat_natCast, Nat.min_eq_left (by omega), ← pow_nat, ← Int.natCast_mul, wrap64 (by omega) (by omega)]; rfl)
theorem os_neB {a b : Bool} (ht : P.underlying t = some .bool) (hx : opK G K x = some (.bool a)) (hy : opK G K y = some (.bool b)) : OpS P G K (.binOp .neq t x y yt) st (.bool (!(a == b))) st :=
 os_bin hx hy (by
  show need (eqFits (P.underlying t) (.bool a)) (ob (eqNil (.bool a) (.bool b)) fun b => some (AV.bool !b)) = _
  rw [ht]
  cases a <;> cases b <;> rfl)
theorem bit_div (c t : Nat) : (((c / 2 ^ t % 2 : Nat) : Int) = 1) ↔ c.testBit t = true := by
 rw [Nat.testBit_eq_decide_div_mod_eq, decide_eq_true_eq]
 omega
end
end Go.Proofs.YtiknomepbklibaaGreatDoor
end
section
namespace Go.Proofs.YtiknomepbklibaaGreatDoor
open Go Go.RowKit
set_option linter.unusedVariables false
set_option linter.unusedSimpArgs false
set_option linter.unnecessarySimpa false
set_option maxRecDepth 100000
set_option maxHeartbeats 1000000

theorem zClone_ev {st : St} (hf : Fresh st) {l : List Int} {kl : AV} (hl : RdR st.h.get [] 1 (zC l) kl) (hn : l.length ≤ 1000000000) : ∃ v st', Ev Tryz.prog envP 65 [kl] st v st' ∧ ∃ ks, v = ks ∧ NewR st st' 1 ks (zC l) ∧ Qt st st' := by
 have hcl := zC_len l
 refine ev_fn rfl Tryz.func65 rfl Tryz.ntmps65 rfl (by decide) (by simp) fun T hT => ?_
 have K : KnT [(0, _)] T := (.cons (hT 0) .nil)
 have M := Mem.start hf
 refine w_seq <| w_region <| o1 K (os_assign rfl) rfl fun _ K => wr_nil ?_
 show W _ _ _ _ _ _ _
 refine w_seq <| w_seq <| w_region <| o1 K (os_move rfl) rfl fun _ K => o1 K (os_eqNilA (hl.len.trans (congrArg some (zC_len _))) un_S_int rfl rfl) rfl fun _ K => wr_nil ?_
 show W _ _ _ _ _ _ _
 refine w_cond (K.opd rfl) (fun h4 => ?_) (fun h4 => ?_)
 ·have hb4 := h4
  refine w_seq <| w_region <| o1 K (os_assign rfl) rfl fun _ K => wr_nil ?_
  show W _ _ _ _ _ _ _
  refine w_ret ?_
  refine ⟨.inr rfl, _, (res_one (rs_tmp K rfl)), ?_⟩
  have hbl : l = [] := by
   have h := hl.len
   rw [nilB_eq h4] at h
   injection h with h
   rw [zC_len] at h
   exact nil_of_len h.symm
  exact ⟨.nils, rfl, ⟨[], by rw [hbl]; exact .none, fun _ _ _ h => by cases h⟩, M.qt⟩
 have hb4 := h4
 refine w_skip ?_
 show W _ _ _ _ _ _ _
 refine w_seq <| w_region ?_
 refine wr_bs K M sl_S_int ze_int rfl rfl rfl rfl rfl fun c5 _ _ K M => ?_
 refine o1 K (os_move rfl) rfl fun _ K => ?_
 replace M := Mem.cast (M' := ([(c5, 0, [])] ++ [])) (Mem.perm M (List.perm_append_comm (l₁ := [(c5, 0, [])]) (l₂ := []))) (by first | (simp only [List.append_assoc, List.cons_append, List.nil_append, List.append_nil, List.set_cons_zero, List.set_cons_succ]; done) | (simp only [List.append_assoc, List.cons_append, List.nil_append, List.append_nil, List.set_cons_zero, List.set_cons_succ]; rfl))
 have hA0c5 : Acc st.n 1 [(c5, 0, [])] (.sl c5 0 0 0 1) [] := Acc.own (n0 := st.n) (z := 1) (c := c5) (m := 0) (ls := []) ((M.own c5 0 [] (by simp)).resolve_right (by simp)) (by simp) (by simp)
 refine wr_accS (L := []) (A := [(c5, 0, [])]) (B := []) K M hA0c5 sl_S_int rfl rfl (RdR.mem M hl (by simp)) (zC_one _) (by simp only [List.length_nil]; omega) rfl fun ks7 A7 _ _ K hA7 M => ?_
 refine o1 K (os_assign rfl) rfl fun _ K => wr_nil ?_
 show W _ _ _ _ _ _ _
 refine w_ret ?_
 refine ⟨.inr rfl, _, (res_one (rs_tmp K rfl)), ?_⟩
 refine ⟨_, rfl, ?_, M.qt⟩
 have h := Mem.newR (L := []) (A := A7) (B := []) M hA7
 simpa using h

theorem sameZ_ev {st : St} (hf : Fresh st) {a b : List Int} {ka kb : AV} (hA : RdR st.h.get [] 1 (zC a) ka) (hB : RdR st.h.get [] 1 (zC b) kb) : ∃ v st', Ev Tryz.prog envP 27 [ka, kb] st v st' ∧ v = .bool (decide (a = b)) ∧ Qt st st' := by
 have hbna : (a.length : Int) ≤ 9223372036854775807 := by have := hA.bnd; rw [zC_len] at this; exact this
 have hbnb : (b.length : Int) ≤ 9223372036854775807 := by have := hB.bnd; rw [zC_len] at this; exact this
 refine ev_fn rfl Tryz.func27 rfl Tryz.ntmps27 rfl (by decide) (by simp) fun T hT => ?_
 have K : KnT [(0, _), (1, _)] T := (.cons (hT 0) (.cons (hT 1) .nil))
 have M := Mem.start hf
 refine w_seq <| w_region <| o1 K (os_assign rfl) rfl fun _ K => wr_nil ?_
 show W _ _ _ _ _ _ _
 refine w_seq <| w_seq <| w_region <| o1 K (os_move rfl) rfl fun _ K => o1 K (os_lenL un_S_int rfl rfl (hA.len.trans (congrArg some (zC_len _)))) rfl fun _ K => o1 K (os_move rfl) rfl fun _ K => o1 K (os_lenL un_S_int rfl rfl (hB.len.trans (congrArg some (zC_len _)))) rfl fun _ K => o1 K (os_neI rfl rfl) rfl fun _ K => wr_nil ?_
 show W _ _ _ _ _ _ _
 refine w_cond (K.opd rfl) (fun h10 => ?_) (fun h10 => ?_)
 ·have hb10 := h10
  replace h10 : ¬ (((a.length : Nat) : Int) = ((b.length : Nat) : Int)) := by simpa using h10
  refine w_seq <| w_region <| o1 K (os_assign rfl) rfl fun _ K => wr_nil ?_
  show W _ _ _ _ _ _ _
  refine w_ret ?_
  refine ⟨.inr rfl, _, (res_one (rs_tmp K rfl)), ?_⟩
  refine ⟨congrArg AV.bool (Eq.symm (decide_eq_false fun e => h10 (by rw [e]))), M.qt⟩
 have hb10 := h10
 replace h10 : (((a.length : Nat) : Int) = ((b.length : Nat) : Int)) := by simpa using h10
 refine w_skip ?_
 show W _ _ _ _ _ _ _
 refine w_seq <| w_seq <| w_region <| o1 K (os_assign rfl) rfl fun _ K => wr_nil ?_
 show W _ _ _ _ _ _ _
 refine w_block ?_
 refine w_loop (fun mm1 T st9 => ∃ (i : Nat), mm1 = a.length - i ∧ KnT [(0, ka), (1, kb), (5, .int .i64 (((i : Nat) : Int)))] T ∧ Mem st.h.get st.n [] st9 [] ∧ i ≤ a.length ∧ (∀ j, j < i → a[j]? = b[j]?)) (fun mm1 T st9 hI => ?_) _ _ _ ⟨0, rfl, (.cons (K _ _ rfl) (.cons (K _ _ rfl) (.cons (K _ _ rfl) .nil))), M.less (.refl _), (Nat.zero_le _), (fun j hj => absurd hj (Nat.not_lt_zero j))⟩
 obtain ⟨i, rfl, K, M, hi, hx⟩ := hI
 refine w_seq <| w_seq <| w_region <| o1 K (os_move rfl) rfl fun _ K => o1 K (os_move rfl) rfl fun _ K => o1 K (os_lenL un_S_int rfl rfl (hA.len.trans (congrArg some (zC_len _)))) rfl fun _ K => o1 K (os_lss rfl rfl) rfl fun _ K => wr_nil ?_
 show W _ _ _ _ _ _ _
 refine w_cond (K.opd rfl) (fun h14 => ?_) (fun h14 => ?_)
 ·have hb14 := h14
  replace h14 := of_decide_eq_true h14
  refine w_skip ?_
  show W _ _ _ _ _ _ _
  refine w_seq <| w_block <| w_seq ?_
  refine w_drawI (l := [(0, 0), (1, 0), (2, 0), (3, 0), (4, 0), (5, 0), (6, 0), (7, 0), (8, 0)]) (by kernel_rfl) ?_
  refine d1 rfl K (os_move rfl) rfl rfl fun _ K => d1 rfl K (os_move rfl) rfl rfl fun _ K => ?_
  obtain ⟨y19, hi19⟩ : ∃ x, a[i]? = some x := ⟨_, List.getElem?_eq_getElem (by omega)⟩
  obtain ⟨x19, m19, f19, q19, _, la19, lo19, lp19⟩ := (RdR.mem M hA (by simp)).load (i := i) (cs := _) (zC_get hi19)
  refine d1 rfl K (os_indexAddr (j := i) el_S_int (congrArg some q19) rfl (by rw [zC_len]; omega)) rfl rfl fun _ K => d1 rfl K (os_load rfl (lo19 _ 0 _ tk_int rfl)) rfl rfl fun _ K => d1 rfl K (os_move rfl) rfl rfl fun _ K => d1 rfl K (os_move rfl) rfl rfl fun _ K => ?_
  obtain ⟨y23, hi23⟩ : ∃ x, b[i]? = some x := ⟨_, List.getElem?_eq_getElem (by omega)⟩
  obtain ⟨x23, m23, f23, q23, _, la23, lo23, lp23⟩ := (RdR.mem M hB (by simp)).load (i := i) (cs := _) (zC_get hi23)
  refine d1 rfl K (os_indexAddr (j := i) el_S_int (congrArg some q23) rfl (by rw [zC_len]; omega)) rfl rfl fun _ K => d1 rfl K (os_load rfl (lo23 _ 0 _ tk_int rfl)) rfl rfl fun _ K => d1 rfl K (os_neI rfl rfl) rfl rfl fun _ K => wd_nil ?_
  show W _ _ _ _ _ _ _
  refine w_cond (K.opd rfl) (fun h25 => ?_) (fun h25 => ?_)
  ·have hb25 := h25
   replace h25 : ¬ (y19 = y23) := by simpa using h25
   refine w_seq <| w_region <| o1 K (os_assign rfl) rfl fun _ K => wr_nil ?_
   show W _ _ _ _ _ _ _
   refine w_ret ?_
   refine ⟨.inr rfl, _, (res_one (rs_tmp K rfl)), ?_⟩
   refine ⟨congrArg AV.bool (Eq.symm (decide_eq_false fun e => h25 (by rw [e, hi23] at hi19; injection hi19 with e1; exact e1.symm))), M.qt⟩
  have hb25 := h25
  replace h25 : (y19 = y23) := by simpa using h25
  refine w_skip ?_
  show W _ _ _ _ _ _ _
  refine w_region <| o1 K (os_move rfl) rfl fun _ K => o1 K (os_add rfl rfl (by omega) (by omega)) rfl fun _ K => o1 K (os_assign rfl) rfl fun _ K => wr_nil ?_
  exact ⟨_, (by omega), i + 1, rfl, (.cons (K _ _ rfl) (.cons (K _ _ rfl) (.cons (K _ _ rfl) .nil))), M.less (.refl _), (by omega), (fun j hj => by rcases Nat.lt_succ_iff_lt_or_eq.1 hj with h | h; exact hx j h; (subst h; rw [hi19, hi23, h25]))⟩
 have hb14 := h14
 replace h14 := of_decide_eq_false h14
 refine w_exit ?_
 show W _ _ _ _ _ _ _
 refine w_seq <| w_region <| o1 K (os_assign rfl) rfl fun _ K => wr_nil ?_
 show W _ _ _ _ _ _ _
 refine w_ret ?_
 refine ⟨.inr rfl, _, (res_one (rs_tmp K rfl)), ?_⟩
 refine ⟨congrArg AV.bool (Eq.symm (decide_eq_true (List.ext_getElem? fun j => ?_))), M.qt⟩
 by_cases hj : j < a.length
 ·exact hx j (by omega)
 ·rw [List.getElem?_eq_none (by omega), List.getElem?_eq_none (by omega)]

end Go.Proofs.YtiknomepbklibaaGreatDoor
end
