/-
  Are two automata one? The reference's answer.
-/
import Derived.Test.YtiknomepbklibaaDoorNwR24M
import Derived.Test.YtiknomepbklibaaDoorNwPtP
section
namespace Go.Proofs.YtiknomepbklibaaDoor
open Go Go.RowKit
set_option linter.unusedVariables false
set_option linter.unusedSimpArgs false
set_option linter.unnecessarySimpa false
set_option maxRecDepth 100000
set_option maxHeartbeats 4000000

theorem like_mid {a b m1 m2 : Au} (h1 : Like m1 a 0 0) (h : Like a b 0 0) (h2 : Like m2 b 0 0) (t1 : m1.tr = a.tr) (t2 : m2.tr = b.tr) (t : b.tr = a.tr) : Like m1 m2 0 0 := fun w hw => by
 have hwa : LetK a.K w := by unfold Au.K at hw ⊢; rw [← t1]; exact hw
 have hwm : LetK m2.K w := by unfold Au.K at hwa ⊢; rw [t2, t]; exact hwa
 rw [h1 w hw, h w hwa, ← h2 w hwm]

theorem same24_ev {st : St} (hf : Fresh st) {a b : Au} (wfa : WFA a) (wfb : WFA b) {ka kn kb km : AV} {ls ls2 : List (List AV)} (hAa : RdR st.h.get [] 1 (bC a.acc) ka) (hNa : LsR st.h.get a.nx kn ls) (hAb : RdR st.h.get [] 1 (bC b.acc) kb) (hNb : LsR st.h.get b.nx km ls2) (ht : b.tr = a.tr) (hL : Like a b 0 0) : ∃ v st', Ev Tryd.prog envP 17 [.agg [.int .i64 (((a.tr : Nat) : Int)), ka, kn], .agg [.int .i64 (((b.tr : Nat) : Int)), kb, km]] st v st' ∧ v = .bool true ∧ Qt st st' := by
 have hac := hAa.cell; have hnc := hNa.r.cell; have hbc := hAb.cell; have hmc := hNb.r.cell
 have B := MemO.start hf
 refine ev_fn rfl Tryd.func17 rfl Tryd.ntmps17 rfl (by decide) (by simp) fun T hT => ?_
 have K : KnT [(0, _), (1, _)] T := (.cons (hT 0) (.cons (hT 1) .nil))
 have M := B.mem
 refine w_seq <| w_region ?_
 refine wr_box K M rfl (cl_cons rfl (cl_cons hAa.cell (cl_cons hNa.r.cell cl_nil))) (by decide) fun c2 _ _ K M => ?_
 refine wr_box K M rfl (cl_cons rfl (cl_cons hAb.cell (cl_cons hNb.r.cell cl_nil))) (by decide) fun c3 _ _ K M => ?_
 refine o1 K (os_assign rfl) rfl fun _ K => wr_nil ?_
 show W _ _ _ _ _ _ _
 refine w_seq ?_
 refine w_drawI (l := [(0, 0), (1, 0), (2, 0), (3, 0), (4, 0), (5, 0), (6, 0), (7, 0), (8, 1), (9, 0), (10, 0), (11, 0), (12, 0)]) (by kernel_rfl) ?_
 have Mq := M
 refine d1 rfl K (os_fieldAddr fo_api_Auto_0 rfl) rfl rfl fun _ K => d1 rfl K (os_load rfl (M.load (k := 1) rfl (part_one tk_int rfl))) rfl rfl fun _ K => d1 rfl K (os_fieldAddr fo_api_Auto_0 rfl) rfl rfl fun _ K => d1 rfl K (os_load rfl (M.load (k := 0) rfl (part_one tk_int rfl))) rfl rfl fun _ K => d1 rfl K (os_eqI rfl rfl) rfl rfl fun _ K => ?_
 refine dB rfl K (os_move rfl) rfl rfl fun b10 _ e10 K => ?_
 cases b10
 ·replace e10 := of_decide_eq_false e10
  exfalso; omega
 replace e10 := of_decide_eq_true e10
 refine dg rfl K rfl rfl (os_load rfl (M.load (k := 1) rfl (part_agg tk_api_Auto rfl))) rfl rfl fun _ K => ?_
 obtain ⟨v12, st12, ev12, cl1, l1, m1, hcls1, htr1, hmd1, nau1, q12⟩ := min_ev M.fresh wfa ((B.step M).rd0 hf hAa) (hNa.old hf fun c hc => (B.step M).old c hc id)
 refine dga rfl K rfl rfl (os_call rfl ev12) rfl rfl fun _ K => ?_
 replace B := B.step M
 obtain ⟨ka1, kn1, vs1, A1, F1, rfl, hA1, B⟩ := B.newAu q12 nau1
 have hn1 : isCell kn1 = true := (LsAt.rd (B.at_ (k := 0) rfl)).cell
 replace B := B.cast (M' := ((c3, 0, [.int .i64 (((b.tr : Nat) : Int)), kb, km]) :: (c2, 0, [.int .i64 (((a.tr : Nat) : Int)), ka, kn]) :: (A1 ++ []))) (by first | (simp only [List.append_assoc, List.cons_append, List.nil_append, List.append_nil, List.set_cons_zero, List.set_cons_succ]; done) | (simp only [List.append_assoc, List.cons_append, List.nil_append, List.append_nil, List.set_cons_zero, List.set_cons_succ]; rfl))
 have M := B.mem
 have Mp := Mq
 have Mq := M
 refine wd_gload1 rfl K rfl rfl rfl (M.load (k := 0) rfl (part_agg tk_api_Auto rfl)) (Mp.load (k := 0) rfl (part_agg tk_api_Auto rfl)) (eqV_agg (by simp [eqOk_str, eqOk_int, eqOk_bool, eqOk_len (hAb.len.trans (congrArg some (bC_len _))), eqOk_len hNb.len])) rfl (by decide) fun _ K => ?_
 obtain ⟨v14, st14, ev14, cl2, l2, m2, hcls2, htr2, hmd2, nau2, q14⟩ := min_ev M.fresh wfb ((B.step M).rd0 hf hAb) (hNb.old hf fun c hc => (B.step M).old c hc id)
 refine dga rfl K rfl rfl (os_call rfl ev14) rfl rfl fun _ K => ?_
 replace B := B.step M
 obtain ⟨ka2, kn2, vs2, A2, F2, rfl, hA2, B⟩ := B.newAu q14 nau2
 have hn2 : isCell kn2 = true := (LsAt.rd (B.at_ (k := 0) rfl)).cell
 replace B := B.cast (M' := ((c3, 0, [.int .i64 (((b.tr : Nat) : Int)), kb, km]) :: (c2, 0, [.int .i64 (((a.tr : Nat) : Int)), ka, kn]) :: (A1 ++ (A2 ++ [])))) (by first | (simp only [List.append_assoc, List.cons_append, List.nil_append, List.append_nil, List.set_cons_zero, List.set_cons_succ]; done) | (simp only [List.append_assoc, List.cons_append, List.nil_append, List.append_nil, List.set_cons_zero, List.set_cons_succ]; rfl))
 have M := B.mem
 have Mp := Mq
 have Mq := M
 have C1 := min_canon wfa hcls1 htr1 hmd1
 have C2 := min_canon wfb hcls2 htr2 hmd2
 obtain rfl := canon_uniq C1.1 C2.1 (by omega) (like_mid C1.2 hL C2.2 htr1 htr2 ht)
 obtain ⟨v15, st15, ev15, rfl, q15⟩ := r19Same_ev (acc := m1.acc) M.fresh (Mem.accR (L := [(c3, 0, [.int .i64 (((b.tr : Nat) : Int)), kb, km]), (c2, 0, [.int .i64 (((a.tr : Nat) : Int)), ka, kn])]) (A := A1) (B := (A2 ++ [])) M hA1) (LsAt.r ((B.step M).at_ (k := 1) rfl)) (Mem.accR (L := ((c3, 0, [.int .i64 (((b.tr : Nat) : Int)), kb, km]) :: (c2, 0, [.int .i64 (((a.tr : Nat) : Int)), ka, kn]) :: (A1 ++ []))) (A := A2) (B := []) (Mem.cast (M := ((c3, 0, [.int .i64 (((b.tr : Nat) : Int)), kb, km]) :: (c2, 0, [.int .i64 (((a.tr : Nat) : Int)), ka, kn]) :: (A1 ++ (A2 ++ [])))) (M' := ((c3, 0, [.int .i64 (((b.tr : Nat) : Int)), kb, km]) :: (c2, 0, [.int .i64 (((a.tr : Nat) : Int)), ka, kn]) :: (A1 ++ [])) ++ (A2 ++ [])) M (by first | (simp only [List.append_assoc, List.cons_append, List.nil_append, List.append_nil, List.set_cons_zero, List.set_cons_succ]; done) | (simp only [List.append_assoc, List.cons_append, List.nil_append, List.append_nil, List.set_cons_zero, List.set_cons_succ]; rfl))) hA2) (LsAt.r ((B.step M).at_ (k := 0) rfl))
 refine dga rfl K rfl rfl (os_call rfl ev15) rfl rfl fun _ K => ?_
 replace M := M.quiet q15
 have Mp := Mq
 have Mq := M
 refine d1 rfl K (os_pick rfl rfl rfl) rfl rfl fun _ K => d1 rfl K (os_assign rfl) rfl rfl fun _ K => wd_nil ?_
 show W _ _ _ _ _ _ _
 refine w_ret ?_
 refine ⟨.inr rfl, _, (res_one (rs_tmp K rfl)), ?_⟩
 exact ⟨rfl, (B.step M).qt⟩
end Go.Proofs.YtiknomepbklibaaDoor
end
section
namespace Go.Proofs.YtiknomepbklibaaDoor
open Go Go.RowKit
set_option linter.unusedVariables false

def dropB (k c : Nat) : Nat := c % 2 ^ k + c / 2 ^ (k + 1) * 2 ^ k
theorem drop_or (k c : Nat) : c % 2 ^ k ||| c / 2 ^ (k + 1) * 2 ^ k = dropB k c := or_hi (low_lt k c)
theorem drop_lt {T k c : Nat} (hk : k ≤ T) (hc : c < 2 ^ (T + 1)) : dropB k c < 2 ^ T := by
 have h1 := low_lt k c
 have h4 : c / 2 ^ (k + 1) < 2 ^ (T - k) := by
  rw [Nat.div_lt_iff_lt_mul (Nat.two_pow_pos _), ← Nat.pow_add, show T - k + (k + 1) = T + 1 by omega]; exact hc
 have h5 : (c / 2 ^ (k + 1) + 1) * 2 ^ k ≤ 2 ^ (T - k) * 2 ^ k := Nat.mul_le_mul_right _ h4
 rw [← Nat.pow_add, show T - k + k = T by omega, Nat.succ_mul] at h5
 unfold dropB
 omega
theorem drop_put {k c u : Nat} (hu : u ≤ 1) : dropB k (putL k c u) = c := by
 have h1 := low_lt k c
 have h2 : 2 ^ (k + 1) = 2 * 2 ^ k := by rw [Nat.pow_succ, Nat.mul_comm]
 have h3 : u * 2 ^ k ≤ 1 * 2 ^ k := Nat.mul_le_mul_right _ hu
 have e1 : putL k c u % 2 ^ k = c % 2 ^ k := by
  unfold putL
  rw [show c % 2 ^ k + u * 2 ^ k + c / 2 ^ k * 2 ^ (k + 1) = c % 2 ^ k + 2 ^ k * (u + c / 2 ^ k * 2) by rw [Nat.pow_succ, Nat.mul_add, Nat.mul_comm (2 ^ k) u]; rw [show c / 2 ^ k * (2 ^ k * 2) = 2 ^ k * (c / 2 ^ k * 2) by rw [Nat.mul_left_comm]]; omega, Nat.add_mul_mod_self_left]
  exact Nat.mod_eq_of_lt h1
 have e2 : putL k c u / 2 ^ (k + 1) = c / 2 ^ k := by
  unfold putL
  rw [Nat.add_mul_div_right _ _ (Nat.two_pow_pos _), Nat.div_eq_of_lt (by omega), Nat.zero_add]
 unfold dropB
 rw [e1, e2, Nat.mul_comm (c / 2 ^ k), Nat.mod_add_div]
/-- A row with the track put in, up to a letter. -/
def wrow (a : Au) (k i c : Nat) : List Int := (List.range c).map fun c' => (((a.nx[i]?).getD [])[dropB k c']?).getD 0
theorem wrow_len (a : Au) (k i c : Nat) : (wrow a k i c).length = c := by simp [wrow]
theorem wrow_succ {a : Au} {k i c : Nat} {r : List Int} {y : Int} (h1 : a.nx[i]? = some r) (h2 : r[dropB k c]? = some y) : wrow a k i (c + 1) = wrow a k i c ++ [y] := by
 unfold wrow
 rw [List.range_succ, List.map_append]
 simp [h1, h2]
theorem wrow64 {a : Au} (W : WFA a) (k i c : Nat) : In64 (wrow a k i c) := fun z hz => by
 obtain ⟨c', _, rfl⟩ := List.mem_map.1 hz
 cases h1 : a.nx[i]? with
 | none => simp
 | some r =>
  cases h2 : r[dropB k c']? with
  | none => simp [h2]
  | some y =>
   have := (W.row r (List.mem_of_getElem? h1)).2 y (List.mem_of_getElem? h2)
   have := W.most
   simp [h2]
   constructor <;> omega
def wrows (a : Au) (k i : Nat) : List (List Int) := (List.range i).map fun i => wrow a k i (2 ^ (a.tr + 1))
theorem wrows_len (a : Au) (k i : Nat) : (wrows a k i).length = i := by simp [wrows]
theorem wrows_succ (a : Au) (k i : Nat) : wrows a k (i + 1) = wrows a k i ++ [wrow a k i (2 ^ (a.tr + 1))] := by unfold wrows; rw [List.range_succ, List.map_append]; rfl
def widen (a : Au) (k : Nat) : Au := ⟨a.tr + 1, a.acc, wrows a k a.n⟩
theorem widen_go {a : Au} (k : Nat) {s c : Nat} (hs : s < a.n) (hc : c < 2 ^ (a.tr + 1)) : (widen a k).go s c = a.go s (dropB k c) := by
 unfold Au.go widen wrows
 show ((((List.range a.n).map fun i => wrow a k i (2 ^ (a.tr + 1)))[s]?.getD [])[c]?.getD 0).toNat = _
 rw [List.getElem?_map, List.getElem?_range hs]
 show (((wrow a k s (2 ^ (a.tr + 1))))[c]?.getD 0).toNat = _
 unfold wrow
 rw [List.getElem?_map, List.getElem?_range hc]
 rfl
/-- Behind a word it is in the one state that the automaton is in. -/
theorem widen_fold {a : Au} (W : WFA a) {k : Nat} (hk : k ≤ a.tr) : ∀ (w : List Nat) {s : Nat}, s < a.n → LetK a.K w → w.foldl (stepS (widen a k) k) [((s : Nat) : Int)] = [((a.run s w : Nat) : Int)]
  | [], s, _, _ => rfl
  | c :: w, s, hs, hw => by
    have hc := hw c (by simp)
    have e : ∀ u, u ≤ 1 → (widen a k).go s (putL k c u) = a.go s c := fun u hu => by
      rw [widen_go k hs (put_lt (T := a.tr + 1) (by omega) hc hu), drop_put hu]
    have e2 : stepS (widen a k) k [((s : Nat) : Int)] c = [((a.go s c : Nat) : Int)] := by
      unfold stepS
      refine riseZ_eq (rise_sortedZ _) (List.pairwise_singleton _ _) fun x => ?_
      rw [mem_sortedZ, mem_nextP]
      constructor
      · rintro ⟨z, hz, u, hu, rfl⟩
        rw [List.mem_singleton.1 hz, Int.toNat_natCast, e u hu]
        simp
      · intro hx
        rw [List.mem_singleton.1 hx]
        exact ⟨_, List.mem_singleton.2 rfl, 0, by decide, by rw [Int.toNat_natCast, e 0 (by decide)]⟩
    rw [List.foldl_cons, e2]
    exact widen_fold W hk w (W.go_lt hs hc) fun x hx => hw x (by simp [hx])
end Go.Proofs.YtiknomepbklibaaDoor
end
