/-
  Declarations in the reckoner's memory; are two of them one: tree's answer.
-/
import Derived.Test.YtmjnbdkjekdkgaaEqF
import Derived.Test.YtmjnbdkjekdkgaaSymF
namespace Go.Proofs.Ytmjnbdkjekdkgaa
open Go Go.RowKit
set_option linter.unusedVariables false
set_option maxRecDepth 100000

/-- A declaration. -/
structure Dc where
  name : List Nat
  order : Int
  at_ : Int
def Dc.cells (d : Dc) : List AV := [.str d.name, .int .i64 d.order, .int .i64 d.at_]
def sameD (a b : Dc) : Bool := decide (a.name = b.name) && decide (a.order = b.order)
def sameDs : List Dc → List Dc → Bool
  | [], [] => true
  | a :: l, b :: r => sameD a b && sameDs l r
  | _, _ => false
/-- A row of them. -/
structure RdDs (h : Hp) (l : List Dc) (ks : AV) : Prop where
  len : slLen ks = some l.length
  bnd : (l.length : Int) ≤ 9223372036854775807
  cell : isCell ks = true
  at_ : ∀ (i : Nat) (d : Dc), l[i]? = some d → ∃ c m off cells, ks = .sl c m off l.length 3 ∧ RowV h c m cells ∧ nth cells (off + i * 3) = some (.str d.name) ∧ nth cells (off + i * 3 + 1) = some (.int .i64 d.order) ∧ nth cells (off + i * 3 + 2) = some (.int .i64 d.at_)
theorem load_row {P : Program} {h : Hp} {c m off : Nat} {cells : List AV} {t : TypeId} {v : AV} (hr : RowV h c m cells) (hp : partA P t cells off = some v) : loadA P t (.ptr c m off) h = some v := by
  obtain ⟨ro, e, vs, ms, h1, h2⟩ := hr
  show ob (rowOf h c m) _ = _
  unfold rowOf
  rw [h1, ob_some]
  show ob (ob (nth ms m) _) _ = _
  rw [nth_eq, h2]
  exact hp
theorem take3 {l : List AV} {o : Nat} {a b c : AV} (h0 : nth l o = some a) (h1 : nth l (o + 1) = some b) (h2 : nth l (o + 2) = some c) : takeK 3 (dropN o l) (fun r => some (AV.agg r)) = some (.agg [a, b, c]) := by
  rw [nth_eq] at h0 h1 h2
  rw [dropN_eq]
  obtain ⟨q0, e0⟩ := List.getElem?_eq_some_iff.1 h0
  obtain ⟨q1, e1⟩ := List.getElem?_eq_some_iff.1 h1
  obtain ⟨q2, e2⟩ := List.getElem?_eq_some_iff.1 h2
  rw [List.drop_eq_getElem_cons q0, List.drop_eq_getElem_cons q1, List.drop_eq_getElem_cons q2, e0, e1, e2]
  rfl
theorem tkDc : tk Try.prog 41 = .agg 3 := by kernel_rfl
theorem tkDcs : tk Try.prog 29 = .one := by kernel_rfl
theorem fDc0 : fieldOff Try.prog 41 0 = some 0 := by kernel_rfl
theorem fDc1 : fieldOff Try.prog 41 1 = some 1 := by kernel_rfl
theorem fDc2 : fieldOff Try.prog 41 2 = some 2 := by kernel_rfl
theorem uDcs : Try.prog.underlying 29 = some (.slice 41) := by kernel_rfl
theorem eDcs : elemOfA Try.prog 29 = some 3 := by kernel_rfl
theorem zDc : zeroOf Try.prog 41 = some [.str [], .int .i64 0, .int .i64 0] := by kernel_rfl
theorem szDc : sizeA Try.prog 41 = some 3 := by kernel_rfl
theorem RdDs.load {h : Hp} {l : List Dc} {ks : AV} (r : RdDs h l ks) {i : Nat} {d : Dc} (hd : l[i]? = some d) : ∃ c m off, ks = .sl c m off l.length 3 ∧ loadA Try.prog 41 (.ptr c m (off + i * 3)) h = some (.agg d.cells) ∧
    loadA Try.prog 9 (.ptr c m (off + i * 3 + 0)) h = some (.str d.name) ∧ loadA Try.prog 3 (.ptr c m (off + i * 3 + 1)) h = some (.int .i64 d.order) := by
  obtain ⟨c, m, off, cells, e, hr, h0, h1, h2⟩ := r.at_ i d hd
  exact ⟨c, m, off, e, load_row hr (part_agg tkDc (take3 h0 h1 h2)), load_row hr (part_one tkStr h0), load_row hr (part_one tkInt h1)⟩
theorem sameDecl_ev {G : Env} (hs : G.s 19 = none) {st : St} (hf : Fresh st) (a b : Dc) : ∃ v st', Ev Try.prog G 19 [.agg a.cells, .agg b.cells] st v st' ∧ v = .bool (sameD a b) ∧ Qt st st' := by
  refine ev_fn hs Try.func19 rfl Try.ntmps19 rfl (by decide) (by simp) fun T hT => ?_
  have K : KnT [(0, _), (1, _)] T := (.cons (hT 0) (.cons (hT 1) .nil))
  have M := Mem.start hf
  refine w_seq ?_
  refine w_region ?_
  refine wr_box K M rfl (rfl) (by decide) fun c2 _ _ K M => ?_
  refine wr_box K M rfl (rfl) (by decide) fun c3 _ _ K M => ?_
  refine wr_op K (os_assign rfl) (by decide) fun _ K => ?_
  refine wr_nil ?_
  show W _ _ _ _ _ _ _
  refine w_seq ?_
  refine w_region ?_
  refine wr_op K (os_fieldAddr fDc0 rfl) (by decide) fun _ K => ?_
  refine wr_load (k := 1) K M rfl rfl (part_one tkStr rfl) (by decide) fun _ K => ?_
  refine wr_op K (os_fieldAddr fDc0 rfl) (by decide) fun _ K => ?_
  refine wr_load (k := 0) K M rfl rfl (part_one tkStr rfl) (by decide) fun _ K => ?_
  refine wr_op K (os_eqS rfl rfl) (by decide) fun _ K => ?_
  refine wr_opb K (os_move rfl) (by decide) fun b10 _ e10 K => ?_
  cases b10 with
  | true =>
    refine wr_gy K rfl rfl (os_fieldAddr fDc1 rfl) (by decide) fun _ K => ?_
    refine wr_gy K rfl rfl (os_load rfl (M.load (k := 1) rfl (part_one tkInt rfl))) (by decide) fun _ K => ?_
    refine wr_gy K rfl rfl (os_fieldAddr fDc1 rfl) (by decide) fun _ K => ?_
    refine wr_gy K rfl rfl (os_load rfl (M.load (k := 0) rfl (part_one tkInt rfl))) (by decide) fun _ K => ?_
    refine wr_gy K rfl rfl (os_eqI rfl rfl) (by decide) fun _ K => ?_
    refine wr_op K (os_pick rfl rfl rfl) (by decide) fun _ K => ?_
    refine wr_op K (os_assign rfl) (by decide) fun _ K => ?_
    refine wr_nil ?_
    show W _ _ _ _ _ _ _
    refine w_ret ?_
    refine ⟨.inr rfl, _, res_tmp K rfl, ?_, M.qt⟩
    exact congrArg AV.bool (by simp_all [sameD])
  | false =>
    refine wr_gn K rfl rfl rfl (by decide) fun _ K => ?_
    refine wr_gn K rfl rfl rfl (by decide) fun _ K => ?_
    refine wr_gn K rfl rfl rfl (by decide) fun _ K => ?_
    refine wr_gn K rfl rfl rfl (by decide) fun _ K => ?_
    refine wr_gn K rfl rfl rfl (by decide) fun _ K => ?_
    refine wr_op K (os_pick rfl rfl rfl) (by decide) fun _ K => ?_
    refine wr_op K (os_assign rfl) (by decide) fun _ K => ?_
    refine wr_nil ?_
    show W _ _ _ _ _ _ _
    refine w_ret ?_
    refine ⟨.inr rfl, _, res_tmp K rfl, ?_, M.qt⟩
    exact congrArg AV.bool (by simp_all [sameD])
theorem sameDs_step {a b : List Dc} {i : Nat} {k k' : Dc} (ha : a[i]? = some k) (hb : b[i]? = some k') : sameDs (a.drop i) (b.drop i) = (sameD k k' && sameDs (a.drop (i + 1)) (b.drop (i + 1))) := by
  obtain ⟨h1, h2⟩ := List.getElem?_eq_some_iff.1 ha
  obtain ⟨h3, h4⟩ := List.getElem?_eq_some_iff.1 hb
  rw [List.drop_eq_getElem_cons h1, List.drop_eq_getElem_cons h3, h2, h4, sameDs]
theorem equal_decls {G : Env} {fo : Nat} (hs : G.s 18 = none) {st : St} (hf : Fresh st) {a b : List Dc} {ks kt : AV} (hka : RdDs st.h.get a ks) (hkb : RdDs st.h.get b kt)
    (hC : ∀ (k k' : Dc) (st1 : St), Fresh st1 → ∃ v st', Ev Try.prog G fo [.agg k.cells, .agg k'.cells] st1 v st' ∧ v = .bool (sameD k k') ∧ Qt st1 st') : ∃ v st', Ev Try.prog G 18 [ks, kt, .fn fo [] []] st v st' ∧ v = .bool (sameDs a b) ∧ Qt st st' := by
  refine ev_fn hs Try.func18 rfl Try.ntmps18 rfl (by decide) (by simp) fun T hT => ?_
  have K : KnT [(0, ks), (1, kt), (2, .fn fo [] [])] T := (.cons (hT 0) (.cons (hT 1) (.cons (hT 2) .nil)))
  have M := Mem.start hf
  have hla := hka.bnd
  refine w_seq ?_
  refine w_region ?_
  refine wr_op K (os_assign rfl) (by decide) fun _ K => ?_
  refine wr_nil ?_
  show W _ _ _ _ _ _ _
  refine w_seq ?_
  refine w_seq ?_
  refine w_region ?_
  refine wr_op K (os_move rfl) (by decide) fun _ K => ?_
  refine wr_op K (os_lenL uDcs rfl rfl hka.len) (by decide) fun _ K => ?_
  refine wr_op K (os_move rfl) (by decide) fun _ K => ?_
  refine wr_op K (os_lenL uDcs rfl rfl hkb.len) (by decide) fun _ K => ?_
  refine wr_op K (os_neI rfl rfl) (by decide) fun _ K => ?_
  refine wr_nil ?_
  show W _ _ _ _ _ _ _
  refine w_cond (K.opd rfl) (fun h => ?_) (fun h => ?_)
  · refine w_seq ?_
    refine w_region ?_
    refine wr_op K (os_assign rfl) (by decide) fun _ K => ?_
    refine wr_nil ?_
    show W _ _ _ _ _ _ _
    refine w_ret ?_
    refine ⟨.inr rfl, _, res_tmp K rfl, ?_, M.qt⟩
    have hne : a.length ≠ b.length := by
      intro e
      rw [e] at h
      simp at h
    have : ∀ (a b : List Dc), a.length ≠ b.length → sameDs a b = false := by
      intro a
      induction a with
      | nil => intro b hb; cases b with
        | nil => exact absurd rfl hb
        | cons _ _ => rfl
      | cons k l ih => intro b hb; cases b with
        | nil => rfl
        | cons k' r =>
          rw [sameDs, ih r (fun e => hb (by simp [e])), Bool.and_false]
    rw [this a b hne]
  · have hl : a.length = b.length := Int.ofNat_inj.1 (by simpa using h)
    refine w_skip ?_
    show W _ _ _ _ _ _ _
    refine w_seq ?_
    refine w_seq ?_
    refine w_region ?_
    refine wr_op K (os_move rfl) (by decide) fun _ K => ?_
    refine wr_op K (os_lenL uDcs rfl rfl hka.len) (by decide) fun _ K => ?_
    refine wr_op K (os_move rfl) (by decide) fun _ K => ?_
    refine wr_nil ?_
    show W _ _ _ _ _ _ _
    refine w_block ?_
    refine w_loop (fun n T st1 => ∃ i, i ≤ a.length ∧ n = a.length - i ∧ KnT [(17, .int .i64 (i : Int)), (0, ks), (1, kt), (2, .fn fo [] []), (15, ks), (16, .int .i64 (a.length : Int))] T ∧ Mem st.h.get st.n [] st1 [] ∧ sameDs a b = sameDs (a.drop i) (b.drop i)) (fun n T st1 hI => ?_) (a.length - 0) _ _ ⟨0, Nat.zero_le _, rfl, fun t v hv => ?_, M, rfl⟩
    · obtain ⟨i, hi, hn, K, M, hsame⟩ := hI
      refine w_seq ?_
      refine w_region ?_
      refine wr_op K (os_lss rfl rfl) (by decide) fun _ K => ?_
      refine wr_nil ?_
      show W _ _ _ _ _ _ _
      refine w_seq ?_
      refine w_cond (K.opd rfl) (fun h => ?_) (fun h => ?_)
      · have hlt : i < a.length := by have := of_decide_eq_true h; omega
        obtain ⟨k, hk⟩ : ∃ k, a[i]? = some k := ⟨_, List.getElem?_eq_getElem hlt⟩
        obtain ⟨k', hk'⟩ : ∃ k, b[i]? = some k := ⟨_, List.getElem?_eq_getElem (hl ▸ hlt)⟩
        obtain ⟨c, m, off, rfl, hL, _, _⟩ := hka.load hk
        obtain ⟨c', m', off', rfl, hL', _, _⟩ := hkb.load hk'
        have hka_m : k ∈ a := List.mem_of_getElem? hk
        have hstep := sameDs_step hk hk'
        refine w_skip ?_
        show W _ _ _ _ _ _ _
        refine w_seq ?_
        refine w_block ?_
        refine w_seq ?_
        refine w_region ?_
        refine wr_op K (os_move rfl) (by decide) fun _ K => ?_
        refine wr_op K (os_indexAddr eDcs rfl rfl hlt) (by decide) fun _ K => ?_
        refine wr_op K (os_load rfl (M.load0 hL)) (by decide) fun _ K => ?_
        refine wr_alloc K M zDc (by decide) fun c8 _ _ K M => ?_
        refine wr_op K (os_assign rfl) (by decide) fun _ K => ?_
        refine wr_store (k := 0) K M rfl rfl rfl szDc rfl rfl rfl fun _ M => ?_
        refine wr_nil ?_
        show W _ _ _ _ _ _ _
        refine w_seq ?_
        refine w_region ?_
        refine wr_op K (os_move rfl) (by decide) fun _ K => ?_
        refine wr_op K (os_move rfl) (by decide) fun _ K => ?_
        refine wr_op K (os_indexAddr eDcs rfl rfl (hl ▸ hlt)) (by decide) fun _ K => ?_
        refine wr_op K (os_load rfl (M.load0 hL')) (by decide) fun _ K => ?_
        refine wr_alloc K M zDc (by decide) fun c9 _ _ K M => ?_
        refine wr_store (k := 0) K M rfl rfl rfl szDc rfl rfl rfl fun _ M => ?_
        refine wr_nil ?_
        show W _ _ _ _ _ _ _
        refine w_seq ?_
        refine w_region ?_
        refine wr_op K (os_move rfl) (by decide) fun _ K => ?_
        refine wr_load (k := 1) K M rfl rfl (part_agg tkDc rfl) (by decide) fun _ K => ?_
        refine wr_load (k := 0) K M rfl rfl (part_agg tkDc rfl) (by decide) fun _ K => ?_
        obtain ⟨v29, st29, ev29, rfl, q29⟩ := hC k k' _ M.fresh
        refine wr_op K (os_callv rfl rfl ev29) (by decide) fun _ K => ?_
        replace M := M.quiet q29
        refine wr_op K (os_not rfl) (by decide) fun _ K => ?_
        refine wr_nil ?_
        show W _ _ _ _ _ _ _
        refine w_cond (K.opd rfl) (fun h => ?_) (fun h => ?_)
        · refine w_seq ?_
          refine w_region ?_
          refine wr_op K (os_assign rfl) (by decide) fun _ K => ?_
          refine wr_nil ?_
          show W _ _ _ _ _ _ _
          refine w_ret ?_
          refine ⟨.inr rfl, _, res_tmp K rfl, ?_, M.qt⟩
          rw [hsame, hstep, show sameD _ _ = false by simpa using h, Bool.false_and]
        · refine w_skip ?_
          show W _ _ _ _ _ _ _
          refine w_region ?_
          refine wr_op K (os_add rfl rfl (by omega) (by omega)) (by decide) fun _ K => ?_
          refine wr_op K (os_move rfl) (by decide) fun _ K => ?_
          refine wr_nil ?_
          refine ⟨a.length - (i + 1), by omega, i + 1, hlt, rfl, ?_, M.less (by simp), ?_⟩
          · exact .cons (K _ _ rfl) (.cons (K _ _ rfl) (.cons (K _ _ rfl) (.cons (K _ _ rfl) (.cons (K _ _ rfl) (.cons (K _ _ rfl) .nil)))))
          · rw [hsame, hstep, show sameD _ _ = true by simpa using h, Bool.true_and]
      · have hge : i = a.length := by have := of_decide_eq_false h; omega
        refine w_exit ?_
        show W _ _ _ _ _ _ _
        refine w_seq ?_
        refine w_region ?_
        refine wr_op K (os_assign rfl) (by decide) fun _ K => ?_
        refine wr_nil ?_
        show W _ _ _ _ _ _ _
        refine w_ret ?_
        refine ⟨.inr rfl, _, res_tmp K rfl, ?_, M.qt⟩
        rw [hsame, List.drop_eq_nil_of_le (by omega), List.drop_eq_nil_of_le (by omega)]
        rfl
    · exact (.cons (K _ _ rfl) (.cons (K _ _ rfl) (.cons (K _ _ rfl) (.cons (K _ _ rfl) (.cons (K _ _ rfl) (.cons (K _ _ rfl) .nil))))) : KnT _ _) t v hv
end Go.Proofs.Ytmjnbdkjekdkgaa
