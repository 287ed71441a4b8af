/-
  free.Put: terms put for names; what is put is new, or stands in rows that are said.
-/
import Derived.Test.YtmjnbdkjekdkgaaDoorFbRun
namespace Go.Proofs.YtmjnbdkjekdkgaaDoor
open Go Go.RowKit
set_option linter.unusedVariables false
set_option linter.unusedSimpArgs false
set_option linter.unnecessarySimpa false
set_option maxRecDepth 100000
set_option maxHeartbeats 1000000

theorem comp_accP {h0 : Hp} {n0 : Nat} {st : St} {L A B : Rows0} {ks : AV} {l : List (List Nat)} (hM : Mem h0 n0 [] st (L ++ (A ++ B))) (hA : Acc n0 1 A ks (txC l)) :
  ∃ v st' A', Ev Tryd.prog envD 50 [ks] st v st' ∧ PAcc n0 A' v (compN l) ∧ Mem h0 n0 [] st' (L ++ (A' ++ B)) := by
 have hb := hA.bnd
 rw [Jc] at hb
 generalize hg : txC l = ls at hA
 have hcn : compN [] = [] := List.length_eq_zero_iff.1 (Nat.le_zero.1 (compN_len []))
 cases hA with
 | none =>
  have hl : l = [] := by
   have h := congrArg List.length hg
   rw [Jc] at h
   exact List.length_eq_zero_iff.1 h
  subst hl
  exact ⟨.nils, st, [], ev_sumPut0 (V0 := id) (F := compB) (V := compV) rfl hM.fresh, by rw [hcn]; exact .none, hM⟩
 | own hc hz hb' =>
  rename_i c m
  subst hg
  by_cases hl : l = []
  ·subst hl
   refine ⟨.sl c m 0 0 1, st, _, ev_sumPut1 (V0 := id) (F := compB) (V := compV) rfl hM.fresh c m, ?_, hM⟩
   rw [hcn]
   exact .own (l := []) (rest := []) hc (by simp)
  ·have hrow := hM.row1' (c := c) (m := m) (l := (txC l).flatten) (by simp)
   have hs : strsOf (txC l).flatten = some (l.map toB) := by rw [txC_flat]; exact strsOf_str l
   obtain ⟨v, st', h1, rfl, h3, h4⟩ := ev_sumPut (F := compB) (V := compV) (V0 := id) (G := envD) (P := Tryd.prog) (f := 50) rfl hM.fresh hrow hs (by simpa using hl) (by simpa using hb) (by have := compact_le (l.map toB); simp only [compB, List.length_append, List.length_replicate]; omega)
   refine ⟨compV c m (l.map toB), st', [(c, m, (compB (l.map toB)).map bAV)], ?_, ?_, Mem.chgRow (L := L) (B := B) hM h4 h3⟩
   ·rw [Jc]; rw [List.length_map] at h1; exact h1
   ·have e : (compB (l.map toB)).map bAV = (txC (compN l)).flatten ++ (List.replicate ((l.map toB).length - (Lib.compact (l.map toB)).length) []).map bAV := by
     rw [compB, List.map_append, txC_flat, compN, List.map_map]; rfl
    rw [e]
    have hn : (compN l).length = (Lib.compact (l.map toB)).length := by simp [compN]
    have := PAcc.own (n0 := n0) (c := c) (m := m) (l := compN l) (rest := (List.replicate ((l.map toB).length - (Lib.compact (l.map toB)).length) []).map bAV) hc (Nat.le_trans (compN_len l) hb)
    rw [hn] at this
    exact this
theorem freeN_len (x : Nd) : (freeN x).length ≤ szN x := by
 have h1 := compN_len (sortN (namesN x []))
 have h2 := namesN_len x []
 rw [sortN_len] at h1
 exact Nat.le_trans h1 h2
/-- A pigeonhole. -/
theorem nodup_le {α : Type} [DecidableEq α] : ∀ (l1 l2 : List α), l1.Nodup → (∀ x ∈ l1, x ∈ l2) → l1.length ≤ l2.length := by
  intro l1
  induction l1 with
  | nil => intro l2 _ _; exact Nat.zero_le _
  | cons a l1 ih =>
    intro l2 hn hs
    obtain ⟨h1, h2⟩ := List.nodup_cons.1 hn
    have ha := hs a (List.mem_cons_self ..)
    have := ih (l2.erase a) h2 fun x hx => (List.mem_erase_of_ne (by intro e; subst e; exact h1 hx)).2 (hs x (List.mem_cons_of_mem _ hx))
    rw [List.length_erase_of_mem ha] at this
    have := List.length_pos_of_mem ha
    simp only [List.length_cons]
    omega
def strokes (s : List Nat) (k : Nat) : List Nat := s ++ List.replicate k 39
theorem strokes_zero (s : List Nat) : strokes s 0 = s := by simp [strokes]
theorem strokes_succ (s : List Nat) (k : Nat) : strokes s k ++ [39] = strokes s (k + 1) := by
 unfold strokes
 rw [List.append_assoc, List.replicate_succ']
theorem strokes_len (s : List Nat) (k : Nat) : (strokes s k).length = s.length + k := by simp [strokes]
theorem strokes_most {bl : List (List Nat)} {s : List Nat} {k : Nat} (h : ∀ j, j < k → inB (strokes s j) bl = true) : k ≤ bl.length := by
 have h1 := nodup_le ((List.range k).map (strokes s)) bl (by
  rw [List.nodup_iff_pairwise_ne, List.pairwise_map]
  refine List.Pairwise.imp (fun {a b} hab e => ?_) List.pairwise_lt_range
  have := congrArg List.length e
  rw [strokes_len, strokes_len] at this
  omega) fun x hx => by
   obtain ⟨j, hj, rfl⟩ := List.mem_map.1 hx
   exact mem_inB.1 (h j (List.mem_range.1 hj))
 simpa using h1
theorem unusedN_step {bl : List (List Nat)} {f : Nat} {s : List Nat} (h : inB s bl = true) : unusedN bl (f + 1) s = unusedN bl f (s ++ [39]) := by rw [unusedN, if_pos h]
theorem unusedN_stop {bl : List (List Nat)} {f : Nat} {s : List Nat} (h : inB s bl = false) : unusedN bl (f + 1) s = s := by rw [unusedN, if_neg (by rw [h]; decide)]
/-- A look-up by a place. -/
theorem lookT_idx (s : List Nat) : ∀ (ns : List (List Nat)) (ts : List Nd) (k : Nat), (idxA (fun y => decide (s = y)) ns k < 0 → lookT ns ts s = none) ∧ (0 ≤ idxA (fun y => decide (s = y)) ns k → (k : Int) ≤ idxA (fun y => decide (s = y)) ns k ∧ lookT ns ts s = ts[(idxA (fun y => decide (s = y)) ns k - k).toNat]?) := by
  intro ns
  induction ns with
  | nil => intro ts k; rw [idxA]; exact ⟨fun _ => lookT_none _ _, fun h => absurd h (by decide)⟩
  | cons n ns ih =>
    intro ts k
    rw [idxA]
    by_cases e : s = n
    · subst e
      rw [if_pos (by simp)]
      refine ⟨fun h => absurd h (by omega), fun _ => ⟨Int.le_refl _, ?_⟩⟩
      cases ts with
      | nil => rw [show lookT (s :: ns) [] s = none from rfl]; simp
      | cons t ts => rw [lookT, if_pos rfl]; simp
    · rw [if_neg (by simpa using e)]
      cases ts with
      | nil =>
        obtain ⟨h1, h2⟩ := ih [] (k + 1)
        refine ⟨fun _ => rfl, fun h => ?_⟩
        obtain ⟨h3, _⟩ := h2 h
        refine ⟨by omega, by rw [show lookT (n :: ns) [] s = none from rfl]; simp⟩
      | cons t ts =>
        obtain ⟨h1, h2⟩ := ih ts (k + 1)
        rw [lookT, if_neg (fun h => e h.symm)]
        refine ⟨h1, fun h => ?_⟩
        obtain ⟨h3, h4⟩ := h2 h
        refine ⟨by omega, ?_⟩
        rw [h4]
        have : (idxA (fun y => decide (s = y)) ns (k + 1) - (k : Int)).toNat = (idxA (fun y => decide (s = y)) ns (k + 1) - ((k + 1 : Nat) : Int)).toNat + 1 := by omega
        rw [this, List.getElem?_cons_succ]
/-- What a look-up hands back. -/
def TermV (R : Rws) (r : Option Nd) (v : AV) : Prop := ∃ o s z a kk b, v = .tup [.agg [.str o, .str s, .int .i64 z, .int .i64 a, kk], .bool b] ∧ (∃ n, slLen kk = some n) ∧ ((b = true ∧ ∃ l, r = some (.mk o s z a l) ∧ RdG R (.mk o s z a l) [.str o, .str s, .int .i64 z, .int .i64 a, kk]) ∨ (b = false ∧ r = none))
theorem new_node {R : Rws} {st0 st' : St} {M A B : Rows0} (hM : Mem st0.h.get st0.n [] st' M) {α : Type} {f : α → Nd} {l : List α} {lsn : List (List AV)} {ks : AV} {o s : List Nat} {z a : Int} (hA : Acc st0.n 5 A ks lsn) (hmap : MapG (plusR R B) f l lsn) (hn : lsn.length = l.length) (hsub : (A ++ B).Sublist M) (hb : Bytes o ∧ Bytes s) :
  NewN R st0 st' (.mk o s z a (l.map f)) (.agg [.str o, .str s, .int .i64 z, .int .i64 a, ks]) := by
 refine ⟨o, s, z, a, l.map f, ks, A ++ B, rfl, rfl, hM.seg hsub, ?_⟩
 refine ((hmap.kids hn hA).mono ?_).node hb
 intro c m x h
 rcases h with (h | h) | h
 ·exact .inl h
 ·exact .inr (List.mem_append_right _ h)
 ·exact .inr (List.mem_append_left _ h)
theorem NewN.same {R : Rws} {st0 st' : St} {M : Rows0} {o s : List Nat} {z a : Int} {l : List Nd} {kk : AV} (hM : Mem st0.h.get st0.n [] st' M) (hr : RdG R (.mk o s z a l) [.str o, .str s, .int .i64 z, .int .i64 a, kk]) : NewN R st0 st' (.mk o s z a l) (.agg [.str o, .str s, .int .i64 z, .int .i64 a, kk]) :=
 ⟨o, s, z, a, l, kk, [], rfl, rfl, hM.seg (List.nil_sublist _), hr.mono fun _ _ _ h => .inl h⟩
theorem RdG.again {R : Rws} {o s s' : List Nat} {z a a' : Int} {l : List Nd} {kk : AV} (r : RdG R (.mk o s z a l) [.str o, .str s, .int .i64 z, .int .i64 a, kk]) (hb : Bytes s') : RdG R (.mk o s' z a' l) [.str o, .str s', .int .i64 z, .int .i64 a', kk] := by
 obtain ⟨kk', ls, e, K, hb', _⟩ := r.open5
 injection e with _ e
 injection e with _ e
 injection e with _ e
 injection e with _ e
 injection e with e _
 subst e
 exact K.node ⟨hb', hb⟩
theorem szL_ge : ∀ l : List Nd, l.length ≤ szL l
 | [] => Nat.zero_le _
 | k :: l => by have h1 := szN_pos k; have h2 := szL_ge l; rw [szL, List.length_cons]; omega
/-- Numbers, names and what binds are as they may be. -/
def okB (C : Int) (x : Nd) : Bool := match x with
  | .mk op name n _ kids => decide (name.length ≤ 10000) && (decide (0 ≤ n) && (decide (n ≤ C) && ((!(decide (op = [101, 120]) || decide (op = [97, 108, 108])) || decide (kids.length = 1)) && ((!decide (op = [112, 108, 117, 115]) || kids.all fun k => decide (k.op = [118, 97, 114])) && kids.attach.all fun k => okB C k.1))))
termination_by szN x
decreasing_by
  all_goals
    simp_wf
    have := szL_mem k.2
    rw [szN]
    omega
theorem okB_mk (C : Int) (op name : List Nat) (n a : Int) (kids : List Nd) : okB C (.mk op name n a kids) = (decide (name.length ≤ 10000) && (decide (0 ≤ n) && (decide (n ≤ C) && ((!(decide (op = [101, 120]) || decide (op = [97, 108, 108])) || decide (kids.length = 1)) && ((!decide (op = [112, 108, 117, 115]) || kids.all fun k => decide (k.op = [118, 97, 114])) && kids.all (okB C)))))) := by
 rw [okB, attach_all kids (okB C)]
theorem okB_open {C : Int} {op name : List Nat} {n a : Int} {kids : List Nd} (h : okB C (.mk op name n a kids) = true) : name.length ≤ 10000 ∧ 0 ≤ n ∧ n ≤ C ∧ ((op = [101, 120] ∨ op = [97, 108, 108]) → kids.length = 1) ∧ (∀ k ∈ kids, okB C k = true) ∧ (op = [112, 108, 117, 115] → ∀ k ∈ kids, k.op = [118, 97, 114]) := by
 rw [okB_mk] at h
 simp only [Bool.and_eq_true, decide_eq_true_eq, List.all_eq_true] at h
 refine ⟨h.1, h.2.1, h.2.2.1, fun ho => ?_, h.2.2.2.2.2, fun ho k hk => ?_⟩
 ·have h4 := h.2.2.2.1
  have : (decide (op = [101, 120]) || decide (op = [97, 108, 108])) = true := by simpa using ho
  rw [this] at h4
  simpa using h4
 ·have h5 := h.2.2.2.2.1
  subst ho
  have h5 : (kids.all fun k => decide (k.op = [118, 97, 114])) = true := by simpa using h5
  exact of_decide_eq_true (List.all_eq_true.1 h5 k hk)

theorem copied_ev (R : Rws) (x : Nd) : ∀ (st : St) (cs : List AV), Fresh st → inH R st.h.get → RdG R x cs → szN x ≤ 1000000 → ∃ v st', Ev Tryd.prog envD 74 [.agg cs] st v st' ∧ NewN R st st' x v ∧ Qt st st' := by
 refine nd_rec (M := fun x => ∀ (st : St) (cs : List AV), Fresh st → inH R st.h.get → RdG R x cs → szN x ≤ 1000000 → ∃ v st', Ev Tryd.prog envD 74 [.agg cs] st v st' ∧ NewN R st st' x v ∧ Qt st st') (fun o s z a l ih => ?_) x
 intro st cs hf hR hr hsz
 have hr0 := hr
 obtain ⟨kk, ls, rfl, hK, hb⟩ := hr.open5
 have hln := hK.ln
 have hbn := hK.bnd
 rw [szN] at hsz
 have hsl := szL_ge l
 refine J5 rfl Tryd.func74 rfl Tryd.ntmps74 rfl (by decide) (by simp) fun T hT => ?_
 have K : KnT [(0, _)] T := (.cons (hT 0) .nil)
 have M := Mem.start hf
 refine Qh <| Qa ?_
 refine Ub K M rfl (Qf rfl (Qf rfl (Qf rfl (Qf rfl (Qf hK.cell Q7))))) (by decide) fun c1 _ _ K M => ?_
 refine Jy K M Jd (by decide) fun c2 _ _ K M => ?_
 refine Qd ?_
 show W _ _ _ _ _ _ _
 refine Qh <| Qa <| o1 K (Qb rfl) rfl fun _ K => Qd ?_
 show W _ _ _ _ _ _ _
 refine Qh <| Qh <| Qa <| o1 K (Qe Qw rfl) rfl fun _ K => o1 K (Qg rfl (M.load (k := 1) rfl (Qk Qu rfl))) rfl fun _ K => o1 K (Jn Q9 rfl rfl hK.len) rfl fun _ K => o1 K (Qc rfl) rfl fun _ K => Qd ?_
 show W _ _ _ _ _ _ _
 refine Q5 ?_
 refine w_loop (fun mm1 T st9 => ∃ (i : Nat) (ks : AV) (A : Rows0) (B : Rows0) (lsn : List (List AV)), mm1 = l.length - i ∧ KnT [(1, .ptr c1 0 0), (2, .ptr c2 0 0), (3, ks), (7, kk), (8, .int .i64 (((l.length : Nat) : Int))), (9, .int .i64 (((i : Nat) : Int)))] T ∧ Mem st.h.get st.n [] st9 ((c2, 0, [.str [], .str [], .int .i64 0, .int .i64 0, .nils]) :: (c1, 0, [.str o, .str s, .int .i64 z, .int .i64 a, kk]) :: (A ++ (B ++ []))) ∧ Acc st.n 5 A ks lsn ∧ i ≤ l.length ∧ lsn.length = i ∧ MapG (plusR R B) (fun k => k) l lsn) (fun mm1 T st9 hI => ?_) _ _ _ ⟨0, .nils, [], [], [], rfl, (.cons (K _ _ rfl) (.cons (K _ _ rfl) (.cons (K _ _ rfl) (.cons (K _ _ rfl) (.cons (K _ _ rfl) (.cons (K _ _ rfl) .nil)))))), M.less (.refl _), .none, (Nat.zero_le _), rfl, .nil⟩
 obtain ⟨i, ks, A, B, lsn, rfl, K, M, hA, hi, hlen, hmap⟩ := hI
 refine Qh <| Qa <| o1 K (os_lss rfl rfl) rfl fun _ K => Qd ?_
 show W _ _ _ _ _ _ _
 refine Qh ?_
 refine Qr (K.opd rfl) (fun h10 => ?_) (fun h10 => ?_)
 ·have hb10 := h10
  replace h10 := of_decide_eq_true h10
  refine Q3 ?_
  show W _ _ _ _ _ _ _
  refine Qh <| Q5 <| Qh <| Qa ?_
  obtain ⟨⟨o11, s11, z11, a11, l11⟩, hi11⟩ : ∃ k, l[i]? = some k := ⟨_, List.getElem?_eq_getElem (by omega)⟩
  have hm11 := kids_mem hi11
  obtain ⟨_, hc11, hn11⟩ := hK.get hi11
  have hp11 := hn11
  obtain ⟨kk11, ls11, rfl, hK11, hb11⟩ := hp11.open5
  obtain ⟨x11, m11, f11, q11, _, la11, lo11, lp11⟩ := (hK.r (M.inH hR)).load (i := i) (cs := _) hc11
  refine o1 K (Q0 (j := i) Jf (congrArg some q11) rfl (by rw [hK.ln]; omega)) rfl fun _ K => o1 K (Qg rfl (la11 _ Qi)) rfl fun _ K => ?_
  refine Jy K M Jd (by decide) fun c5 _ _ K M => ?_
  refine Qz (k := 0) K M rfl rfl rfl Q6 rfl (Qf rfl (Qf rfl (Qf rfl (Qf rfl (Qf hK11.cell Q7))))) rfl fun _ M => ?_
  refine Qd ?_
  show W _ _ _ _ _ _ _
  refine Qa <| o1 K (Qc rfl) rfl fun _ K => o1 K (Qg rfl (M.load (k := 0) rfl (Ql Qi rfl))) rfl fun _ K => ?_
  obtain ⟨v15, st15, ev15, ⟨on15, sn15, zn15, an15, ln15, kkn15, A15, en15, rfl, hS15, hN15⟩, q15⟩ := ih _ hm11 _ _ M.fresh (M.inH hR) hn11 (by have := szL_mem hm11; omega)
  refine o1 K (Qn rfl ev15) rfl fun _ K => ?_
  replace M := M.callSeg q15 hS15
  replace M := Mem.cast (M' := ((c5, 0, [.str o11, .str s11, .int .i64 z11, .int .i64 a11, kk11]) :: (c2, 0, [.str [], .str [], .int .i64 0, .int .i64 0, .nils]) :: (c1, 0, [.str o, .str s, .int .i64 z, .int .i64 a, kk]) :: (A ++ ((B ++ A15) ++ [])))) M (by first | (simp only [List.append_assoc, List.cons_append, List.nil_append, List.append_nil, List.set_cons_zero, List.set_cons_succ]; done) | (simp only [List.append_assoc, List.cons_append, List.nil_append, List.append_nil, List.set_cons_zero, List.set_cons_succ]; rfl))
  refine wr_bs K M J4 Jd rfl rfl (Qf rfl (Qf rfl (Qf rfl (Qf rfl (Qf hN15.cell Q7))))) rfl rfl fun c16 _ _ K M => ?_
  refine wr_acc1 (k2 := 0) (L := [(c16, 0, [.str on15, .str sn15, .int .i64 zn15, .int .i64 an15, kkn15]), (c5, 0, [.str o11, .str s11, .int .i64 z11, .int .i64 a11, kk11]), (c2, 0, [.str [], .str [], .int .i64 0, .int .i64 0, .nils]), (c1, 0, [.str o, .str s, .int .i64 z, .int .i64 a, kk])]) (A := A) (B := ((B ++ A15) ++ [])) K M hA J4 rfl rfl rfl rfl (by omega) rfl fun ks17 A17 _ _ K hA17 M => ?_
  refine o1 K (Qb rfl) rfl fun _ K => Qd ?_
  show W _ _ _ _ _ _ _
  refine Qa <| o1 K (Jm rfl rfl (by omega) (by omega)) rfl fun _ K => o1 K (Qc rfl) rfl fun _ K => Qd ?_
  exact ⟨_, (by omega), i + 1, ks17, A17, B ++ A15, (lsn ++ [[.str on15, .str sn15, .int .i64 zn15, .int .i64 an15, kkn15]]), rfl, (.cons (K _ _ rfl) (.cons (K _ _ rfl) (.cons (K _ _ rfl) (.cons (K _ _ rfl) (.cons (K _ _ rfl) (.cons (K _ _ rfl) .nil)))))), M.less (.cons _ (.cons _ (.refl _))), hA17, (by omega), (by rw [List.length_append]; simp; omega), (hmap.snoc hlen hi11 hN15)⟩
 have hb10 := h10
 replace h10 := of_decide_eq_false h10
 refine Uk ?_
 show W _ _ _ _ _ _ _
 refine Qh <| Qa <| o1 K (Qc rfl) rfl fun _ K => o1 K (Qe Qw rfl) rfl fun _ K => ?_
 refine wr_store1 (k := 1) K M rfl rfl rfl sz_S_api_Node (hA.cell) rfl fun _ M => ?_
 refine Qd ?_
 show W _ _ _ _ _ _ _
 refine Qh <| Qa <| o1 K (Qg rfl (M.load (k := 1) rfl (Ql Qi rfl))) rfl fun _ K => ?_
 refine Qz (k := 0) K M rfl rfl rfl Q6 rfl (Qf rfl (Qf rfl (Qf rfl (Qf rfl (Qf hA.cell Q7))))) rfl fun _ M => ?_
 refine Qd ?_
 show W _ _ _ _ _ _ _
 refine Qs ?_
 refine ⟨.inr rfl, _, (Qm (Js K rfl (M.load (k := 0) rfl (Ql Qi rfl)))), ?_⟩
 refine ⟨?_, M.qt⟩
 have hnn := new_node (o := o) (s := s) (z := z) (a := a) M hA hmap (by omega) (.cons _ (.cons _ (List.Sublist.trans (List.sublist_append_left (A ++ B) []) (by rw [List.append_assoc]; exact .refl _)))) hb
 rw [List.map_id' l] at hnn
 exact hnn

theorem pTerm_ev {R : Rws} {ns : List (List Nat)} {ts : List Nd} {kn kt : AV} {lts : List (List AV)} {st : St} (hf : Fresh st) (hR : inH R st.h.get) (hN : RdR st.h.get [] 1 (txC ns) kn) (hTs : KidsG R ts kt lts) (s : List Nat) : ∃ v st', Ev Tryd.prog envD 73 [.agg [kn, kt], .str s] st v st' ∧ TermV R (lookT ns ts s) v ∧ Qt st st' := by
 have hbn := hTs.bnd
 have hln := hTs.ln
 refine J5 rfl Tryd.func73 rfl Tryd.ntmps73 rfl (by decide) (by simp) fun T hT => ?_
 have K : KnT [(0, _), (1, _)] T := (.cons (hT 0) (.cons (hT 1) .nil))
 have M := Mem.start hf
 refine Qh <| Qa ?_
 refine Ub K M rfl (Qf hN.cell (Qf hTs.cell Q7)) (by decide) fun c2 _ _ K M => ?_
 refine Jy K M Jd (by decide) fun c4 _ _ K M => ?_
 refine o1 K (Qb rfl) rfl fun _ K => Qd ?_
 show W _ _ _ _ _ _ _
 refine Qh <| Qa <| o1 K (Qe fo_free_put_0 rfl) rfl fun _ K => o1 K (Qg rfl (M.load (k := 1) rfl (Qk tk_S_string rfl))) rfl fun _ K => o1 K (Qc rfl) rfl fun _ K => ?_
 obtain ⟨ix, hix⟩ : ∃ ix, ix = idxA (fun y => decide (s = y)) ns 0 := ⟨_, rfl⟩
 obtain ⟨hx1, hx2⟩ := lookT_idx s ns ts 0
 rw [← hix] at hx1 hx2
 obtain ⟨v10, st10, ev10, e10, q10⟩ := txIndex_ev M.fresh (RdR.mem M hN (by simp)) s
 refine o1 K (Qn rfl ev10) rfl fun _ K => ?_
 rw [← hix] at e10
 subst e10
 replace M := M.quiet q10
 refine o1 K (Qb rfl) rfl fun _ K => Qd ?_
 show W _ _ _ _ _ _ _
 refine Qh <| Qh <| Qa <| o1 K (Qc rfl) rfl fun _ K => o1 K (os_lss rfl rfl) rfl fun _ K => ?_
 refine oB K (Qc rfl) rfl fun b13 _ e13 K => ?_
 cases b13
 ·replace e13 := of_decide_eq_false e13
  refine og K rfl rfl (Qc rfl) rfl fun _ K => og K rfl rfl (Qe fo_free_put_1 rfl) rfl fun _ K => og K rfl rfl (Qg rfl (M.load (k := 1) rfl (Qk Qu rfl))) rfl fun _ K => og K rfl rfl (Jn Q9 rfl rfl hTs.len) rfl fun _ K => og K rfl rfl (os_geq rfl rfl) rfl fun _ K => o1 K (Qj rfl rfl rfl) rfl fun _ K => Qd ?_
  show W _ _ _ _ _ _ _
  refine Qr (K.opd rfl) (fun h19 => ?_) (fun h19 => ?_)
  ·have hb19 := h19
   replace h19 := of_decide_eq_true h19
   refine Qh <| Qa <| o1 K (os_build st_api_Node rfl rfl) rfl fun _ K => ?_
   refine Qz (k := 0) K M rfl rfl rfl Q6 rfl rfl rfl fun _ M => ?_
   refine o1 K (Qb rfl) rfl fun _ K => Qd ?_
   show W _ _ _ _ _ _ _
   refine Qs ?_
   refine ⟨.inr rfl, _, (res_two (Js K rfl (M.load (k := 0) rfl (Ql Qi rfl))) (Qp K rfl)), ?_⟩
   refine ⟨⟨[], [], 0, 0, .nils, false, rfl, ⟨0, rfl⟩, .inr ⟨rfl, ?_⟩⟩, M.qt⟩
   by_cases hneg : ix < 0
   ·exact hx1 hneg
   ·obtain ⟨_, h9⟩ := hx2 (by omega)
    rw [h9]; exact List.getElem?_eq_none (by simp_all <;> omega)
  have hb19 := h19
  replace h19 := of_decide_eq_false h19
  refine Q3 ?_
  show W _ _ _ _ _ _ _
  refine Qh <| Qa <| o1 K (Qe fo_free_put_1 rfl) rfl fun _ K => o1 K (Qg rfl (M.load (k := 1) rfl (Qk Qu rfl))) rfl fun _ K => o1 K (Qc rfl) rfl fun _ K => ?_
  obtain ⟨⟨o24, s24, z24, a24, l24⟩, hi24⟩ : ∃ k, ts[ix.toNat]? = some k := ⟨_, List.getElem?_eq_getElem (by omega)⟩
  have hm24 := kids_mem hi24
  obtain ⟨_, hc24, hn24⟩ := hTs.get hi24
  have hp24 := hn24
  obtain ⟨kk24, ls24, rfl, hK24, hb24⟩ := hp24.open5
  obtain ⟨x24, m24, f24, q24, _, la24, lo24, lp24⟩ := (hTs.r (M.inH hR)).load (i := ix.toNat) (cs := _) hc24
  refine o1 K (Q0 (j := ix.toNat) Jf (congrArg some q24) (congrArg (fun z => some (AV.int .i64 z)) (by omega : _ = ((ix.toNat : Nat) : Int))) (by rw [hTs.ln]; omega)) rfl fun _ K => o1 K (Qg rfl (la24 _ Qi)) rfl fun _ K => ?_
  refine Qz (k := 0) K M rfl rfl rfl Q6 rfl (Qf rfl (Qf rfl (Qf rfl (Qf rfl (Qf hK24.cell Q7))))) rfl fun _ M => ?_
  refine o1 K (Qb rfl) rfl fun _ K => Qd ?_
  show W _ _ _ _ _ _ _
  refine Qs ?_
  refine ⟨.inr rfl, _, (res_two (Js K rfl (M.load (k := 0) rfl (Ql Qi rfl))) (Qp K rfl)), ?_⟩
  refine ⟨⟨_, _, _, _, _, true, rfl, ⟨_, hK24.len⟩, .inl ⟨rfl, _, ?_, hn24⟩⟩, M.qt⟩
  obtain ⟨_, h9⟩ := hx2 (by simp_all <;> omega)
  rw [h9, ← hi24]
  congr 1; omega
 replace e13 := of_decide_eq_true e13
 refine gn K rfl rfl rfl rfl fun _ K => gn K rfl rfl rfl rfl fun _ K => gn K rfl rfl rfl rfl fun _ K => gn K rfl rfl rfl rfl fun _ K => gn K rfl rfl rfl rfl fun _ K => o1 K (Qj rfl rfl rfl) rfl fun _ K => Qd ?_
 show W _ _ _ _ _ _ _
 refine Qr (t := true) (K.opd rfl) (fun _ => ?_) (fun h => by cases h)
 refine Qh <| Qa <| o1 K (os_build st_api_Node rfl rfl) rfl fun _ K => ?_
 refine Qz (k := 0) K M rfl rfl rfl Q6 rfl rfl rfl fun _ M => ?_
 refine o1 K (Qb rfl) rfl fun _ K => Qd ?_
 show W _ _ _ _ _ _ _
 refine Qs ?_
 refine ⟨.inr rfl, _, (res_two (Js K rfl (M.load (k := 0) rfl (Ql Qi rfl))) (Qp K rfl)), ?_⟩
 refine ⟨⟨[], [], 0, 0, .nils, false, rfl, ⟨0, rfl⟩, .inr ⟨rfl, ?_⟩⟩, M.qt⟩
 by_cases hneg : ix < 0
 ·exact hx1 hneg
 ·obtain ⟨_, h9⟩ := hx2 (by omega)
  rw [h9]; exact List.getElem?_eq_none (by simp_all <;> omega)

theorem unusedN_strokes (bl : List (List Nat)) : ∀ (f : Nat) (s : List Nat), ∃ k, k ≤ f ∧ unusedN bl f s = strokes s k
 | 0, s => ⟨0, Nat.le_refl _, by rw [unusedN, strokes_zero]⟩
 | f + 1, s => by
  rw [unusedN]
  split
  ·obtain ⟨k, hk, h⟩ := unusedN_strokes bl f (s ++ [39])
   refine ⟨k + 1, by omega, ?_⟩
   rw [h]
   unfold strokes
   rw [List.append_assoc, List.replicate_succ]; rfl
  ·exact ⟨0, Nat.zero_le _, (strokes_zero s).symm⟩
theorem strokes_bytes {s : List Nat} (h : Bytes s) (k : Nat) : Bytes (strokes s k) := by
 intro x hx
 rcases List.mem_append.1 hx with hx | hx
 ·exact h x hx
 ·have := (List.mem_replicate.1 hx).2
  omega
theorem bytes_v : Bytes [118] := by unfold Bytes; decide
theorem freshN_bytes (cnt : List Nat → Int) {s : List Nat} (h : Bytes s) (bl : List (List Nat)) : Bytes (freshN cnt s bl) := by
 unfold freshN
 split
 ·obtain ⟨k, _, e⟩ := unusedN_strokes bl (bl.length + 1) [118]
  rw [e]; exact strokes_bytes bytes_v k
 ·obtain ⟨k, _, e⟩ := unusedN_strokes bl (bl.length + 1) s
  rw [e]; exact strokes_bytes h k

theorem tNamesP_ev {o s : List Nat} {z a : Int} {l : List Nd} {st : St} {cs : List AV} (hf : Fresh st) (hr : RdN st.h.get (.mk o s z a l) cs) (hsz : szN (.mk o s z a l) ≤ 1000000) : ∃ v st', Ev Tryd.prog envD 23 [.agg cs] st v st' ∧ NewP st st' v (freeN (.mk o s z a l)) ∧ Qt st st' := by
 have hr0 := hr
 obtain ⟨kk, ls, rfl, hK, hb⟩ := hr.open5
 have hln := hK.ln
 have hbn := hK.bnd
 refine J5 rfl Tryd.func23 rfl Tryd.ntmps23 rfl (by decide) (by simp) fun T hT => ?_
 have K : KnT [(0, _)] T := (.cons (hT 0) .nil)
 have M := Mem.start hf
 refine Qh <| Qa ?_
 refine Ub K M rfl (Qf rfl (Qf rfl (Qf rfl (Qf rfl (Qf hK.cell Q7))))) (by decide) fun c1 _ _ K M => ?_
 refine o1 K (Qb rfl) rfl fun _ K => Qd ?_
 show W _ _ _ _ _ _ _
 refine Qh <| Qa <| o1 K (Qg rfl (M.load (k := 0) rfl (Ql Qi rfl))) rfl fun _ K => ?_
 obtain ⟨v5, st5, ev5, ks5, rfl, nr5, q5⟩ := names_ev _ [] .nils true _ _ M.fresh (hr0.mono M.rows) (RdR.nil _ _ _) (.inl ⟨rfl, rfl⟩) (by simpa using hsz)
 refine o1 K (Qn rfl ev5) rfl fun _ K => ?_
 obtain ⟨A5, hA5, M⟩ := M.callAcc q5 nr5
 refine o1 K (Qb rfl) rfl fun _ K => Qd ?_
 show W _ _ _ _ _ _ _
 refine Qh <| Qa <| o1 K (Qc rfl) rfl fun _ K => ?_
 obtain ⟨v7, st7, A7, ev7, rfl, M7, hA7⟩ := sort_acc (L := [(c1, 0, [.str o, .str s, .int .i64 z, .int .i64 a, kk])]) (A := A5) (B := []) M hA5
 refine o1 K (Qn rfl ev7) rfl fun _ K => ?_
 replace M := M7
 refine Qd ?_
 show W _ _ _ _ _ _ _
 refine Qh <| Qa <| o1 K (Qc rfl) rfl fun _ K => ?_
 obtain ⟨v9, st9, A9, ev9, hA9, M9⟩ := comp_accP (L := [(c1, 0, [.str o, .str s, .int .i64 z, .int .i64 a, kk])]) (A := A7) (B := []) M hA7
 refine o1 K (Qn rfl ev9) rfl fun _ K => ?_
 replace M := M9
 refine o1 K (Qb rfl) rfl fun _ K => Qd ?_
 show W _ _ _ _ _ _ _
 refine Qs ?_
 refine ⟨.inr rfl, _, (Qm (Qp K rfl)), ?_⟩
 exact ⟨Mem.newP (L := [(c1, 0, [.str o, .str s, .int .i64 z, .int .i64 a, kk])]) (A := A9) (B := []) M hA9, M.qt⟩

theorem unused_ev {st : St} (hf : Fresh st) {bl : List (List Nat)} {kb : AV} (hB : RdR st.h.get [] 1 (txC bl) kb) (s : List Nat) (hs : s.length ≤ 100000) (hl : bl.length ≤ 500000) : ∃ v st', Ev Tryd.prog envD 129 [.str s, kb] st v st' ∧ v = .str (unusedN bl (bl.length + 1) s) ∧ Qt st st' := by
 have hcl := Jc bl
 refine J5 rfl Tryd.func129 rfl Tryd.ntmps129 rfl (by decide) (by simp) fun T hT => ?_
 have K : KnT [(0, _), (1, _)] T := (.cons (hT 0) (.cons (hT 1) .nil))
 have M := Mem.start hf
 refine Qh <| Qa <| o1 K (Qb rfl) rfl fun _ K => Qd ?_
 show W _ _ _ _ _ _ _
 refine Qh <| Q5 ?_
 refine w_loop (fun mm1 T st9 => ∃ (k : Nat) (x : List Nat), mm1 = bl.length + 1 - k ∧ KnT [(0, .str x), (1, kb), (4, .str [])] T ∧ Mem st.h.get st.n [] st9 [] ∧ x = strokes s k ∧ (∀ j, j < k → inB (strokes s j) bl = true) ∧ unusedN bl (bl.length + 1) s = unusedN bl (bl.length + 1 - k) x) (fun mm1 T st9 hI => ?_) _ _ _ ⟨0, s, rfl, (.cons (K _ _ rfl) (.cons (K _ _ rfl) (.cons (K _ _ rfl) .nil))), M.less (.refl _), (strokes_zero s).symm, (fun j hj => absurd hj (Nat.not_lt_zero j)), rfl⟩
 obtain ⟨k, x, rfl, K, M, hxk, hj, hx⟩ := hI
 have hxl : x.length = s.length + k := by rw [hxk, strokes_len]
 have hkm := strokes_most hj
 refine Qh <| Qh <| Qa <| o1 K (Qc rfl) rfl fun _ K => o1 K (Qc rfl) rfl fun _ K => ?_
 obtain ⟨v7, st7, ev7, rfl, q7⟩ := txContains_ev M.fresh (RdR.mem M hB (by simp)) x
 refine o1 K (Qn rfl ev7) rfl fun _ K => ?_
 replace M := M.quiet q7
 refine Qd ?_
 show W _ _ _ _ _ _ _
 refine Qr (K.opd rfl) (fun h7 => ?_) (fun h7 => ?_)
 ·have hb7 := h7
  refine Q3 ?_
  show W _ _ _ _ _ _ _
  refine Q5 <| Qa <| o1 K (Qc rfl) rfl fun _ K => o1 K (os_addS (b := [39]) rfl rfl (by first | omega | (simp only [List.length_append, List.length_cons, List.length_nil]; omega))) rfl fun _ K => o1 K (Qb rfl) rfl fun _ K => Qd ?_
  exact ⟨_, (by omega), k + 1, x ++ [39], rfl, (.cons (K _ _ rfl) (.cons (K _ _ rfl) (.cons (K _ _ rfl) .nil))), M.less (.refl _), (by rw [hxk, strokes_succ]), (fun j hj' => by rcases Nat.lt_succ_iff_lt_or_eq.1 hj' with h | h; exact hj j h; (subst h; rw [← hxk]; exact h7)), (by rw [hx, show bl.length + 1 - k = (bl.length + 1 - (k + 1)) + 1 by omega, unusedN_step h7])⟩
 have hb7 := h7
 refine Uk ?_
 show W _ _ _ _ _ _ _
 refine Qh <| Qa <| o1 K (Qc rfl) rfl fun _ K => o1 K (Qb rfl) rfl fun _ K => Qd ?_
 show W _ _ _ _ _ _ _
 refine Qs ?_
 refine ⟨.inr rfl, _, (Qm (Qp K rfl)), ?_⟩
 exact ⟨by rw [hx, show bl.length + 1 - k = (bl.length + 1 - (k + 1)) + 1 by omega, unusedN_stop h7], M.qt⟩

theorem fresh_ev {st : St} (hf : Fresh st) {bl : List (List Nat)} {kb : AV} (hB : RdR st.h.get [] 1 (txC bl) kb) (s : List Nat) (hs : s.length ≤ 100000) (hl : bl.length ≤ 500000) (hb : Bytes s) : ∃ v st', Ev Tryd.prog envD 105 [.str s, kb] st v st' ∧ v = .str (freshN cntN s bl) ∧ Qt st st' := by
 have hcl := Jc bl
 obtain ⟨ku, hku, heu⟩ := unusedN_strokes bl (bl.length + 1) s
 refine J5 rfl Tryd.func105 rfl Tryd.ntmps105 rfl (by decide) (by simp) fun T hT => ?_
 have K : KnT [(0, _), (1, _)] T := (.cons (hT 0) (.cons (hT 1) .nil))
 have M := Mem.start hf
 refine Qh <| Qa <| o1 K (Qb rfl) rfl fun _ K => Qd ?_
 show W _ _ _ _ _ _ _
 refine Qh <| Qa <| o1 K (Qc rfl) rfl fun _ K => o1 K (Qc rfl) rfl fun _ K => ?_
 obtain ⟨v8, st8, ev8, rfl, q8⟩ := unused_ev M.fresh (RdR.mem M hB (by simp)) s (by first | omega | decide) hl
 refine o1 K (Qn rfl ev8) rfl fun _ K => ?_
 replace M := M.quiet q8
 refine o1 K (Qb rfl) rfl fun _ K => Qd ?_
 show W _ _ _ _ _ _ _
 refine Qh <| Qh <| Qa <| o1 K (Qc rfl) rfl fun _ K => ?_
 obtain ⟨v10, st10, ev10, rfl, q10⟩ := runCount_ev M.fresh ((unusedN bl (bl.length + 1) s)) (by rw [heu]; exact strokes_bytes hb ku) (by rw [heu, strokes_len]; omega)
 refine o1 K (Qn rfl ev10) rfl fun _ K => ?_
 replace M := M.quiet q10
 refine o1 K (os_gtr rfl rfl) rfl fun _ K => Qd ?_
 show W _ _ _ _ _ _ _
 refine Qr (K.opd rfl) (fun h11 => ?_) (fun h11 => ?_)
 ·have hb11 := h11
  replace h11 := of_decide_eq_true h11
  refine Qh <| Qa <| o1 K (Qc rfl) rfl fun _ K => ?_
  obtain ⟨v13, st13, ev13, rfl, q13⟩ := unused_ev M.fresh (RdR.mem M hB (by simp)) [118] (by first | omega | decide) hl
  refine o1 K (Qn rfl ev13) rfl fun _ K => ?_
  replace M := M.quiet q13
  refine o1 K (Qb rfl) rfl fun _ K => Qd ?_
  show W _ _ _ _ _ _ _
  refine Qs ?_
  refine ⟨.inr rfl, _, (Qm (Qp K rfl)), ?_⟩
  exact ⟨by rw [freshN, if_pos h11], M.qt⟩
 have hb11 := h11
 replace h11 := of_decide_eq_false h11
 refine Q3 ?_
 show W _ _ _ _ _ _ _
 refine Qh <| Qa <| o1 K (Qc rfl) rfl fun _ K => o1 K (Qb rfl) rfl fun _ K => Qd ?_
 show W _ _ _ _ _ _ _
 refine Qs ?_
 refine ⟨.inr rfl, _, (Qm (Qp K rfl)), ?_⟩
 exact ⟨by rw [freshN, if_neg h11], M.qt⟩
end Go.Proofs.YtmjnbdkjekdkgaaDoor
