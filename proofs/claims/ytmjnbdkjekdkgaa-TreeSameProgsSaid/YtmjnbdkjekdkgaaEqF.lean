/-
  Two rows of kids, compared by the program: what comes of it.
-/
import Derived.Test.YtmjnbdkjekdkgaaNode
import Derived.Test.YtmjnbdkjekdkgaaSymE
namespace Go.Proofs.Ytmjnbdkjekdkgaa
open Go Go.RowKit
set_option linter.unusedVariables false
set_option maxRecDepth 100000

theorem Mem.rdk {P : Program} {tn : TypeId} {h0 : Hp} {n0 : Nat} {st : St} {M : List (Nat × Nat × List AV)} (hM : Mem h0 n0 [] st M) {kids : List Nd} {ks : AV} (r : RdK P tn h0 kids ks) : RdK P tn st.h.get kids ks :=
  r.mono (fun c hc => hM.old c (Nat.lt_of_not_le fun hle => by obtain ⟨C, hC⟩ := hc; rw [hM.base c hle] at hC; cases hC) (by simp)) hM.rows
theorem Mem.load0 {P : Program} {t : TypeId} {h0 : Hp} {n0 : Nat} {st : St} {M : List (Nat × Nat × List AV)} {p v : AV} (hM : Mem h0 n0 [] st M) (h : loadA P t p h0 = some v) : loadA P t p st.h.get = some v := by
  obtain ⟨c, _, _, C, e, hC⟩ := loadA_dom h
  subst e
  rw [← h]
  exact loadA_same (hM.old c (Nat.lt_of_not_le fun hle => by rw [hM.base c hle] at hC; cases hC) (by simp))
theorem cell5 {op name : List Nat} {n at_ : Int} {ks : AV} (h : isCell ks = true) : allL isCell (cellsA (.agg [.str op, .str name, .int .i64 n, .int .i64 at_, ks])) = true := by
  show bif' (isCell ks) true false = true
  rw [h]
  rfl
theorem sameL_step {a b : List Nd} {i : Nat} {k k' : Nd} (ha : a[i]? = some k) (hb : b[i]? = some k') : sameL (a.drop i) (b.drop i) = (sameN k k' && sameL (a.drop (i + 1)) (b.drop (i + 1))) := by
  obtain ⟨h1, h2⟩ := List.getElem?_eq_some_iff.1 ha
  obtain ⟨h3, h4⟩ := List.getElem?_eq_some_iff.1 hb
  rw [List.drop_eq_getElem_cons h1, List.drop_eq_getElem_cons h3, h2, h4, sameL]
/-- Two of them compared: a contract. -/
def SameC (G : Env) (fo : Nat) (st : St) (k k' : Nd) : Prop := ∀ st1, Qt st st1 → ∀ cs cs', RdN st1.h.get k cs → RdN st1.h.get k' cs' → ∃ v st', Ev Try.prog G fo [.agg cs, .agg cs'] st1 v st' ∧ v = .bool (sameN k k') ∧ Qt st1 st'
theorem equal_nodes {G : Env} {fo : Nat} (hs : G.s 13 = none) {st : St} (hf : Fresh st) {a b : List Nd} {ks kt : AV} (hka : RdK Try.prog 24 st.h.get a ks) (hkb : RdK Try.prog 24 st.h.get b kt)
    (hC : ∀ k, k ∈ a → ∀ k', SameC G fo st k k') : ∃ v st', Ev Try.prog G 13 [ks, kt, .fn fo [] []] st v st' ∧ v = .bool (sameL a b) ∧ Qt st st' := by
  refine ev_fn hs Try.func13 rfl Try.ntmps13 rfl (by decide) (by simp) fun T hT => ?_
  have K : KnT [(0, ks), (1, kt), (2, .fn fo [] [])] T := (.cons (hT 0) (.cons (hT 1) (.cons (hT 2) .nil)))
  have M := Mem.start hf
  have hla := hka.bnd
  refine w_seq ?_
  refine w_region ?_
  refine wr_op K (os_assign rfl) (by decide) fun _ K => ?_
  refine wr_nil ?_
  show W _ _ _ _ _ _ _
  refine w_seq ?_
  refine w_seq ?_
  refine w_region ?_
  refine wr_op K (os_move rfl) (by decide) fun _ K => ?_
  refine wr_op K (os_lenL uKids rfl rfl hka.len) (by decide) fun _ K => ?_
  refine wr_op K (os_move rfl) (by decide) fun _ K => ?_
  refine wr_op K (os_lenL uKids rfl rfl hkb.len) (by decide) fun _ K => ?_
  refine wr_op K (os_neI rfl rfl) (by decide) fun _ K => ?_
  refine wr_nil ?_
  show W _ _ _ _ _ _ _
  refine w_cond (K.opd rfl) (fun h => ?_) (fun h => ?_)
  · refine w_seq ?_
    refine w_region ?_
    refine wr_op K (os_assign rfl) (by decide) fun _ K => ?_
    refine wr_nil ?_
    show W _ _ _ _ _ _ _
    refine w_ret ?_
    refine ⟨.inr rfl, _, res_tmp K rfl, ?_, M.qt⟩
    have hne : a.length ≠ b.length := by
      intro e
      rw [e] at h
      simp at h
    have : ∀ (a b : List Nd), a.length ≠ b.length → sameL a b = false := by
      intro a
      induction a with
      | nil => intro b hb; cases b with
        | nil => exact absurd rfl hb
        | cons _ _ => rfl
      | cons k l ih => intro b hb; cases b with
        | nil => rfl
        | cons k' r =>
          rw [sameL, ih r (fun e => hb (by simp [e])), Bool.and_false]
    rw [this a b hne]
  · have hl : a.length = b.length := Int.ofNat_inj.1 (by simpa using h)
    refine w_skip ?_
    show W _ _ _ _ _ _ _
    refine w_seq ?_
    refine w_seq ?_
    refine w_region ?_
    refine wr_op K (os_move rfl) (by decide) fun _ K => ?_
    refine wr_op K (os_lenL uKids rfl rfl hka.len) (by decide) fun _ K => ?_
    refine wr_op K (os_move rfl) (by decide) fun _ K => ?_
    refine wr_nil ?_
    show W _ _ _ _ _ _ _
    refine w_block ?_
    refine w_loop (fun n T st1 => ∃ i, i ≤ a.length ∧ n = a.length - i ∧ KnT [(17, .int .i64 (i : Int)), (0, ks), (1, kt), (2, .fn fo [] []), (15, ks), (16, .int .i64 (a.length : Int))] T ∧ Mem st.h.get st.n [] st1 [] ∧ sameL a b = sameL (a.drop i) (b.drop i)) (fun n T st1 hI => ?_) (a.length - 0) _ _ ⟨0, Nat.zero_le _, rfl, fun t v hv => ?_, M, rfl⟩
    · obtain ⟨i, hi, hn, K, M, hsame⟩ := hI
      refine w_seq ?_
      refine w_region ?_
      refine wr_op K (os_lss rfl rfl) (by decide) fun _ K => ?_
      refine wr_nil ?_
      show W _ _ _ _ _ _ _
      refine w_seq ?_
      refine w_cond (K.opd rfl) (fun h => ?_) (fun h => ?_)
      · have hlt : i < a.length := by have := of_decide_eq_true h; omega
        obtain ⟨k, hk⟩ : ∃ k, a[i]? = some k := ⟨_, List.getElem?_eq_getElem hlt⟩
        obtain ⟨k', hk'⟩ : ∃ k, b[i]? = some k := ⟨_, List.getElem?_eq_getElem (hl ▸ hlt)⟩
        obtain ⟨c, m, off, cs, rfl, hL, hR⟩ := hka.at_ i k hk
        obtain ⟨c', m', off', cs', rfl, hL', hR'⟩ := hkb.at_ i k' hk'
        have hka_m : k ∈ a := List.mem_of_getElem? hk
        have hstep := sameL_step hk hk'
        obtain ⟨op, name, n1, at_, kids⟩ := k
        obtain ⟨op', name', n2, at', kids'⟩ := k'
        obtain ⟨kk, rfl, hkk⟩ := hR.open_ tkN
        obtain ⟨kk', rfl, hkk'⟩ := hR'.open_ tkN
        refine w_skip ?_
        show W _ _ _ _ _ _ _
        refine w_seq ?_
        refine w_block ?_
        refine w_seq ?_
        refine w_region ?_
        refine wr_op K (os_move rfl) (by decide) fun _ K => ?_
        refine wr_op K (os_indexAddr eKids rfl rfl hlt) (by decide) fun _ K => ?_
        refine wr_op K (os_load rfl (M.load0 hL)) (by decide) fun _ K => ?_
        refine wr_alloc K M zNode (by decide) fun c8 _ _ K M => ?_
        refine wr_op K (os_assign rfl) (by decide) fun _ K => ?_
        refine wr_store (k := 0) K M rfl rfl rfl szNode rfl (cell5 hkk.cell) rfl fun _ M => ?_
        refine wr_nil ?_
        show W _ _ _ _ _ _ _
        refine w_seq ?_
        refine w_region ?_
        refine wr_op K (os_move rfl) (by decide) fun _ K => ?_
        refine wr_op K (os_move rfl) (by decide) fun _ K => ?_
        refine wr_op K (os_indexAddr eKids rfl rfl (hl ▸ hlt)) (by decide) fun _ K => ?_
        refine wr_op K (os_load rfl (M.load0 hL')) (by decide) fun _ K => ?_
        refine wr_alloc K M zNode (by decide) fun c9 _ _ K M => ?_
        refine wr_store (k := 0) K M rfl rfl rfl szNode rfl (cell5 hkk'.cell) rfl fun _ M => ?_
        refine wr_nil ?_
        show W _ _ _ _ _ _ _
        refine w_seq ?_
        refine w_region ?_
        refine wr_op K (os_move rfl) (by decide) fun _ K => ?_
        refine wr_load (k := 1) K M rfl rfl (part_agg tkN rfl) (by decide) fun _ K => ?_
        refine wr_load (k := 0) K M rfl rfl (part_agg tkN rfl) (by decide) fun _ K => ?_
        obtain ⟨v29, st29, ev29, rfl, q29⟩ := hC _ hka_m _ _ M.qt _ _ (hR.mono M.rows) (hR'.mono M.rows)
        refine wr_op K (os_callv rfl rfl ev29) (by decide) fun _ K => ?_
        replace M := M.quiet q29
        refine wr_op K (os_not rfl) (by decide) fun _ K => ?_
        refine wr_nil ?_
        show W _ _ _ _ _ _ _
        refine w_cond (K.opd rfl) (fun h => ?_) (fun h => ?_)
        · refine w_seq ?_
          refine w_region ?_
          refine wr_op K (os_assign rfl) (by decide) fun _ K => ?_
          refine wr_nil ?_
          show W _ _ _ _ _ _ _
          refine w_ret ?_
          refine ⟨.inr rfl, _, res_tmp K rfl, ?_, M.qt⟩
          rw [hsame, hstep, show sameN _ _ = false by simpa using h, Bool.false_and]
        · refine w_skip ?_
          show W _ _ _ _ _ _ _
          refine w_region ?_
          refine wr_op K (os_add rfl rfl (by omega) (by omega)) (by decide) fun _ K => ?_
          refine wr_op K (os_move rfl) (by decide) fun _ K => ?_
          refine wr_nil ?_
          refine ⟨a.length - (i + 1), by omega, i + 1, hlt, rfl, ?_, M.less (by simp), ?_⟩
          · exact .cons (K _ _ rfl) (.cons (K _ _ rfl) (.cons (K _ _ rfl) (.cons (K _ _ rfl) (.cons (K _ _ rfl) (.cons (K _ _ rfl) .nil)))))
          · rw [hsame, hstep, show sameN _ _ = true by simpa using h, Bool.true_and]
      · have hge : i = a.length := by have := of_decide_eq_false h; omega
        refine w_exit ?_
        show W _ _ _ _ _ _ _
        refine w_seq ?_
        refine w_region ?_
        refine wr_op K (os_assign rfl) (by decide) fun _ K => ?_
        refine wr_nil ?_
        show W _ _ _ _ _ _ _
        refine w_ret ?_
        refine ⟨.inr rfl, _, res_tmp K rfl, ?_, M.qt⟩
        rw [hsame, List.drop_eq_nil_of_le (by omega), List.drop_eq_nil_of_le (by omega)]
        rfl
    · exact (.cons (K _ _ rfl) (.cons (K _ _ rfl) (.cons (K _ _ rfl) (.cons (K _ _ rfl) (.cons (K _ _ rfl) (.cons (K _ _ rfl) .nil))))) : KnT _ _) t v hv
end Go.Proofs.Ytmjnbdkjekdkgaa
