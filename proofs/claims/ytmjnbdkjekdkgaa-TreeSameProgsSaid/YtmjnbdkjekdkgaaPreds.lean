/-
  Rows of predicates.
-/
import Derived.Test.YtmjnbdkjekdkgaaPred
namespace Go.Proofs.Ytmjnbdkjekdkgaa
open Go Go.RowKit
set_option linter.unusedVariables false
set_option maxRecDepth 100000

def samePs : List Pd → List Pd → Bool
  | [], [] => true
  | a :: l, b :: r => sameP a b && samePs l r
  | _, _ => false
theorem cellN {h : Hp} {k : Nd} {op nm : List Nat} {n a : Int} {kk : AV} (hb : RdN h k [.str op, .str nm, .int .i64 n, .int .i64 a, kk]) : isCell kk = true := by
  obtain ⟨o0, s0, m0, z0, l0⟩ := k
  obtain ⟨_, e, h0⟩ := hb.open_ tkN
  injection e with x1 x; injection x with x2 x; injection x with x3 x; injection x with x4 x; injection x with x5 x
  subst x5
  exact h0.cell
/-- A row of predicates. -/
structure RdPs (h : Hp) (l : List Pd) (ks : AV) : Prop where
  len : slLen ks = some l.length
  bnd : (l.length : Int) ≤ 9223372036854775807
  cell : isCell ks = true
  at_ : ∀ (i : Nat) (d : Pd), l[i]? = some d → ∃ c m off cells cs, ks = .sl c m off l.length 8 ∧ RowV h c m cells ∧ (cells.drop (off + i * 8)).take 8 = cs ∧ RdP h d cs
theorem RdPs.mono {h h' : Hp} (hr : RowLe h h') {l : List Pd} {ks : AV} (r : RdPs h l ks) : RdPs h' l ks :=
  ⟨r.len, r.bnd, r.cell, fun i d hd => by
    obtain ⟨c, m, off, cells, cs, e, h1, h2, h3⟩ := r.at_ i d hd
    exact ⟨c, m, off, cells, cs, e, hr _ _ _ h1, h2, h3.mono hr⟩⟩
theorem Mem.rdps {h0 : Hp} {n0 : Nat} {st : St} {M : List (Nat × Nat × List AV)} (hM : Mem h0 n0 [] st M) {l : List Pd} {ks : AV} (r : RdPs h0 l ks) : RdPs st.h.get l ks := r.mono hM.rows
theorem RdPs.load {h : Hp} {l : List Pd} {ks : AV} (r : RdPs h l ks) {i : Nat} {d : Pd} (hd : l[i]? = some d) : ∃ c m off cs, ks = .sl c m off l.length 8 ∧ RdP h d cs ∧ loadA Try.prog 34 (.ptr c m (off + i * 8)) h = some (.agg cs) ∧
    (∃ kp, RdDs h d.params kp ∧ loadA Try.prog 29 (.ptr c m (off + i * 8 + 1)) h = some kp) ∧ ∃ cb, RdN h d.body cb ∧ loadA Try.prog 24 (.ptr c m (off + i * 8 + 2)) h = some (.agg cb) := by
  obtain ⟨c, m, off, cells, cs, e, hr, ht, hp⟩ := r.at_ i d hd
  have hp0 := hp
  obtain ⟨kp, op, nm, n, z, kk, rfl, hq, hb⟩ := hp
  have hd := List.take_append_drop 8 (cells.drop (off + i * 8))
  rw [ht] at hd
  refine ⟨c, m, off, _, e, hp0, load_row hr (part_agg tkPd ?_), ⟨kp, hq, load_row hr (part_one tkDcs ?_)⟩, _, hb, load_row hr (part_agg tkN ?_)⟩
  · rw [dropN_eq, ← hd]; rfl
  · rw [nth_eq, ← List.getElem?_drop, ← hd]; rfl
  · rw [dropN_eq, ← List.drop_drop, ← hd]; rfl
theorem samePs_step {a b : List Pd} {i : Nat} {k k' : Pd} (ha : a[i]? = some k) (hb : b[i]? = some k') : samePs (a.drop i) (b.drop i) = (sameP k k' && samePs (a.drop (i + 1)) (b.drop (i + 1))) := by
  obtain ⟨h1, h2⟩ := List.getElem?_eq_some_iff.1 ha
  obtain ⟨h3, h4⟩ := List.getElem?_eq_some_iff.1 hb
  rw [List.drop_eq_getElem_cons h1, List.drop_eq_getElem_cons h3, h2, h4, samePs]
theorem equal_preds {G : Env} {fo : Nat} (hs : G.s 20 = none) {st : St} (hf : Fresh st) {a b : List Pd} {ks kt : AV} (hka : RdPs st.h.get a ks) (hkb : RdPs st.h.get b kt)
    (hC : ∀ (k k' : Pd) (st1 : St) (cs ct : List AV), Fresh st1 → RdP st1.h.get k cs → RdP st1.h.get k' ct → ∃ v st', Ev Try.prog G fo [.agg cs, .agg ct] st1 v st' ∧ v = .bool (sameP k k') ∧ Qt st1 st') : ∃ v st', Ev Try.prog G 20 [ks, kt, .fn fo [] []] st v st' ∧ v = .bool (samePs a b) ∧ Qt st st' := by
  refine ev_fn hs Try.func20 rfl Try.ntmps20 rfl (by decide) (by simp) fun T hT => ?_
  have K : KnT [(0, ks), (1, kt), (2, .fn fo [] [])] T := (.cons (hT 0) (.cons (hT 1) (.cons (hT 2) .nil)))
  have M := Mem.start hf
  have hla := hka.bnd
  refine w_seq ?_
  refine w_region ?_
  refine wr_op K (os_assign rfl) (by decide) fun _ K => ?_
  refine wr_nil ?_
  show W _ _ _ _ _ _ _
  refine w_seq ?_
  refine w_seq ?_
  refine w_region ?_
  refine wr_op K (os_move rfl) (by decide) fun _ K => ?_
  refine wr_op K (os_lenL uPds rfl rfl hka.len) (by decide) fun _ K => ?_
  refine wr_op K (os_move rfl) (by decide) fun _ K => ?_
  refine wr_op K (os_lenL uPds rfl rfl hkb.len) (by decide) fun _ K => ?_
  refine wr_op K (os_neI rfl rfl) (by decide) fun _ K => ?_
  refine wr_nil ?_
  show W _ _ _ _ _ _ _
  refine w_cond (K.opd rfl) (fun h => ?_) (fun h => ?_)
  · refine w_seq ?_
    refine w_region ?_
    refine wr_op K (os_assign rfl) (by decide) fun _ K => ?_
    refine wr_nil ?_
    show W _ _ _ _ _ _ _
    refine w_ret ?_
    refine ⟨.inr rfl, _, res_tmp K rfl, ?_, M.qt⟩
    have hne : a.length ≠ b.length := by
      intro e
      rw [e] at h
      simp at h
    have : ∀ (a b : List Pd), a.length ≠ b.length → samePs a b = false := by
      intro a
      induction a with
      | nil => intro b hb; cases b with
        | nil => exact absurd rfl hb
        | cons _ _ => rfl
      | cons k l ih => intro b hb; cases b with
        | nil => rfl
        | cons k' r =>
          rw [samePs, ih r (fun e => hb (by simp [e])), Bool.and_false]
    rw [this a b hne]
  · have hl : a.length = b.length := Int.ofNat_inj.1 (by simpa using h)
    refine w_skip ?_
    show W _ _ _ _ _ _ _
    refine w_seq ?_
    refine w_seq ?_
    refine w_region ?_
    refine wr_op K (os_move rfl) (by decide) fun _ K => ?_
    refine wr_op K (os_lenL uPds rfl rfl hka.len) (by decide) fun _ K => ?_
    refine wr_op K (os_move rfl) (by decide) fun _ K => ?_
    refine wr_nil ?_
    show W _ _ _ _ _ _ _
    refine w_block ?_
    refine w_loop (fun n T st1 => ∃ i, i ≤ a.length ∧ n = a.length - i ∧ KnT [(17, .int .i64 (i : Int)), (0, ks), (1, kt), (2, .fn fo [] []), (15, ks), (16, .int .i64 (a.length : Int))] T ∧ Mem st.h.get st.n [] st1 [] ∧ samePs a b = samePs (a.drop i) (b.drop i)) (fun n T st1 hI => ?_) (a.length - 0) _ _ ⟨0, Nat.zero_le _, rfl, fun t v hv => ?_, M, rfl⟩
    · obtain ⟨i, hi, hn, K, M, hsame⟩ := hI
      refine w_seq ?_
      refine w_region ?_
      refine wr_op K (os_lss rfl rfl) (by decide) fun _ K => ?_
      refine wr_nil ?_
      show W _ _ _ _ _ _ _
      refine w_seq ?_
      refine w_cond (K.opd rfl) (fun h => ?_) (fun h => ?_)
      · have hlt : i < a.length := by have := of_decide_eq_true h; omega
        obtain ⟨k, hk⟩ : ∃ k, a[i]? = some k := ⟨_, List.getElem?_eq_getElem hlt⟩
        obtain ⟨k', hk'⟩ : ∃ k, b[i]? = some k := ⟨_, List.getElem?_eq_getElem (hl ▸ hlt)⟩
        obtain ⟨c, m, off, cs, rfl, hR, hL, _, _⟩ := hka.load hk
        obtain ⟨c', m', off', ct, rfl, hR', hL', _, _⟩ := hkb.load hk'
        have hR0 := hR
        have hR0' := hR'
        obtain ⟨kp, op, nm, n, z, kk, rfl, hp0, hb0⟩ := hR
        obtain ⟨kp', op', nm', n', z', kk', rfl, hp1, hb1⟩ := hR'
        have hq0 := cellN hb0
        have hq1 := cellN hb1
        have hka_m : k ∈ a := List.mem_of_getElem? hk
        have hstep := samePs_step hk hk'
        refine w_skip ?_
        show W _ _ _ _ _ _ _
        refine w_seq ?_
        refine w_block ?_
        refine w_seq ?_
        refine w_region ?_
        refine wr_op K (os_move rfl) (by decide) fun _ K => ?_
        refine wr_op K (os_indexAddr ePds rfl rfl hlt) (by decide) fun _ K => ?_
        refine wr_op K (os_load rfl (M.load0 hL)) (by decide) fun _ K => ?_
        refine wr_alloc K M zPd (by decide) fun c8 _ _ K M => ?_
        refine wr_op K (os_assign rfl) (by decide) fun _ K => ?_
        refine wr_store (k := 0) K M rfl rfl rfl szPd rfl (cell8 hp0.cell hq0) rfl fun _ M => ?_
        refine wr_nil ?_
        show W _ _ _ _ _ _ _
        refine w_seq ?_
        refine w_region ?_
        refine wr_op K (os_move rfl) (by decide) fun _ K => ?_
        refine wr_op K (os_move rfl) (by decide) fun _ K => ?_
        refine wr_op K (os_indexAddr ePds rfl rfl (hl ▸ hlt)) (by decide) fun _ K => ?_
        refine wr_op K (os_load rfl (M.load0 hL')) (by decide) fun _ K => ?_
        refine wr_alloc K M zPd (by decide) fun c9 _ _ K M => ?_
        refine wr_store (k := 0) K M rfl rfl rfl szPd rfl (cell8 hp1.cell hq1) rfl fun _ M => ?_
        refine wr_nil ?_
        show W _ _ _ _ _ _ _
        refine w_seq ?_
        refine w_region ?_
        refine wr_op K (os_move rfl) (by decide) fun _ K => ?_
        refine wr_load (k := 1) K M rfl rfl (part_agg tkPd rfl) (by decide) fun _ K => ?_
        refine wr_load (k := 0) K M rfl rfl (part_agg tkPd rfl) (by decide) fun _ K => ?_
        obtain ⟨v29, st29, ev29, rfl, q29⟩ := hC k k' _ _ _ M.fresh (hR0.mono M.rows) (hR0'.mono M.rows)
        refine wr_op K (os_callv rfl rfl ev29) (by decide) fun _ K => ?_
        replace M := M.quiet q29
        refine wr_op K (os_not rfl) (by decide) fun _ K => ?_
        refine wr_nil ?_
        show W _ _ _ _ _ _ _
        refine w_cond (K.opd rfl) (fun h => ?_) (fun h => ?_)
        · refine w_seq ?_
          refine w_region ?_
          refine wr_op K (os_assign rfl) (by decide) fun _ K => ?_
          refine wr_nil ?_
          show W _ _ _ _ _ _ _
          refine w_ret ?_
          refine ⟨.inr rfl, _, res_tmp K rfl, ?_, M.qt⟩
          rw [hsame, hstep, show sameP _ _ = false by simpa using h, Bool.false_and]
        · refine w_skip ?_
          show W _ _ _ _ _ _ _
          refine w_region ?_
          refine wr_op K (os_add rfl rfl (by omega) (by omega)) (by decide) fun _ K => ?_
          refine wr_op K (os_move rfl) (by decide) fun _ K => ?_
          refine wr_nil ?_
          refine ⟨a.length - (i + 1), by omega, i + 1, hlt, rfl, ?_, M.less (by simp), ?_⟩
          · exact .cons (K _ _ rfl) (.cons (K _ _ rfl) (.cons (K _ _ rfl) (.cons (K _ _ rfl) (.cons (K _ _ rfl) (.cons (K _ _ rfl) .nil)))))
          · rw [hsame, hstep, show sameP _ _ = true by simpa using h, Bool.true_and]
      · have hge : i = a.length := by have := of_decide_eq_false h; omega
        refine w_exit ?_
        show W _ _ _ _ _ _ _
        refine w_seq ?_
        refine w_region ?_
        refine wr_op K (os_assign rfl) (by decide) fun _ K => ?_
        refine wr_nil ?_
        show W _ _ _ _ _ _ _
        refine w_ret ?_
        refine ⟨.inr rfl, _, res_tmp K rfl, ?_, M.qt⟩
        rw [hsame, List.drop_eq_nil_of_le (by omega), List.drop_eq_nil_of_le (by omega)]
        rfl
    · exact (.cons (K _ _ rfl) (.cons (K _ _ rfl) (.cons (K _ _ rfl) (.cons (K _ _ rfl) (.cons (K _ _ rfl) (.cons (K _ _ rfl) .nil))))) : KnT _ _) t v hv
end Go.Proofs.Ytmjnbdkjekdkgaa
