/-
  A reckoner for closed calls: operations on memory.
-/
import Derived.Test.YtmjnbdkjekdkgaaEvE
import Derived.Laws.AppendOwn
namespace Go.Proofs.Ytmjnbdkjekdkgaa
open Go
set_option linter.unusedVariables false
set_option linter.unusedSimpArgs false

noncomputable section

/-! A class is laid. -/
def withCls {β : Type} (st : St) (c : Nat) (C : Cls) (k : St → β) : β := st.h.put c C fun h => k ⟨st.n, h⟩
theorem withCls_eq {β : Type} (st : St) (c : Nat) (C : Cls) (k : St → β) : withCls st c C k = k ⟨st.n, st.h.set c C⟩ := Tr.put_eq _ _ _ _
def newCls {β : Type} (st : St) (C : Cls) (k : Nat → St → β) : β := st.h.put st.n C fun h => sNat (st.n + 1) fun n => k st.n ⟨n, h⟩
theorem newCls_eq {β : Type} (st : St) (C : Cls) (k : Nat → St → β) : newCls st C k = k st.n ⟨st.n + 1, st.h.set st.n C⟩ := by
  unfold newCls
  rw [Tr.put_eq, sNat_eq]
def memRow {β : Type} (l : List AV) (st : St) (k : Nat → Nat → St → β) : β := sList l fun l => sNat (lenL l) fun e => newCls st (.row false [(e, 0, some l)]) fun c st => k e c st
theorem memRow_eq {β : Type} (l : List AV) (st : St) (k : Nat → Nat → St → β) : memRow l st k = k l.length st.n ⟨st.n + 1, st.h.set st.n (.row false [(l.length, 0, some l)])⟩ := by
  unfold memRow
  rw [sList_eq, sNat_eq, newCls_eq, lenL_eq]

theorem ab_new {st : St} (hf : Fresh st) (C : Cls) : Ab st ⟨st.n + 1, st.h.set st.n C⟩ := by
  refine ⟨Nat.le_succ _, ?_, fun c hc ho => ?_⟩
  · rw [set_upd]
    exact grow_upd fun C hC => by rw [hf st.n (Nat.le_refl _)] at hC; cases hC
  · show (st.h.set st.n C).get c = none
    rw [set_upd, upd_ne _ _ (by intro e; simp only at ho; omega)]
    exact hc
theorem ab_set {st : St} {c : Nat} {C0 C : Cls} (h0 : st.h.get c = some C0) (hp : exts C0 <+: exts C) : Ab st ⟨st.n, st.h.set c C⟩ := by
  refine ⟨Nat.le_refl _, ?_, fun x hx _ => ?_⟩
  · rw [set_upd]
    exact grow_upd fun C' hC => by rw [h0] at hC; injection hC with hC; subst hC; exact hp
  · show (st.h.set c C).get x = none
    rw [set_upd, upd_ne _ _ (by intro e; subst e; rw [h0] at hx; cases hx)]
    exact hx

/-- What an operation does: to the reckoner, to the model. -/
structure OpOk (P : Program) (st st' : St) (v : AV) (s : (Operand → Value) → Pls → Sem Next) (R : Operand → Option AV) : Prop where
  ab : Ab st st'
  wf : WF st'.h.get v
  sim : ∀ (w0 : World) (p : Pls) (w : World) (ρ : Operand → Value), HR w0 p st.h.get w → RFit R ρ p st.h.get →
    ∃ p' w', ((s ρ p).run P w = .ok (.value (conc p' v)) w' ∨ ((s ρ p).run P w = .ok .skip w' ∧ conc p' v = undef)) ∧ Step w0 p w p' st'.h.get w'

/-- What an operation does that makes a class. -/
def AlOk (P : Program) (n : Nat) (C : Cls) (v : AV) (s : (Operand → Value) → Pls → Sem Next) (R : Operand → Option AV) : Prop :=
  ∀ g : Hp, g n = none → (∀ x v, R x = some v → WF g v) → WF (upd g n C) v ∧
    ∀ (w0 : World) (p : Pls) (w : World) (ρ : Operand → Value), HR w0 p g w → RFit R ρ p g → ∃ p' w', (s ρ p).run P w = .ok (.value (conc p' v)) w' ∧ Step w0 p w p' (upd g n C) w'
theorem AlOk.op {P : Program} {st : St} {C : Cls} {v : AV} {s : (Operand → Value) → Pls → Sem Next} {R : Operand → Option AV} (h : AlOk P st.n C v s R) (hf : Fresh st) (hw : ∀ x v, R x = some v → WF st.h.get v) :
    OpOk P st ⟨st.n + 1, st.h.set st.n C⟩ v s R := by
  obtain ⟨h1, h2⟩ := h st.h.get (hf st.n (Nat.le_refl _)) hw
  refine ⟨ab_new hf C, by rw [set_upd]; exact h1, fun w0 p w ρ H hR => ?_⟩
  obtain ⟨p', w', h3, h4⟩ := h2 w0 p w ρ H hR
  exact ⟨p', w', .inl h3, by rw [set_upd]; exact h4⟩

/-! What a type's zero is. -/
def zeroOf (P : Program) (t : TypeId) : Option (List AV) := match P.info? t with
  | some i => (match i.zero with
    | some z => mapO ofCell z.cells.toList
    | none => none)
  | none => none
theorem zeroOf_ok {P : Program} {t : TypeId} {l : List AV} (h : zeroOf P t = some l) (p : Pls) (hp : Hp) : ∃ z, (∀ w, (zeroValue t).run P w = .ok z w) ∧ z.cells = (concL p l).toArray ∧ WFL hp l ∧ (∀ v ∈ l, isCell v = true) ∧
    ∃ i, P.info? t = some i ∧ i.zero = some z := by
  unfold zeroOf at h
  split at h
  · rename_i i hi
    split at h
    · rename_i z hz
      obtain ⟨h1, h2, h3⟩ := ofCells_ok p hp _ _ h
      exact ⟨z, fun w => by simp [zeroValue, typeInfo, hi, hz], by rw [h1], h2, h3, i, hi, hz⟩
    · cases h
  · cases h

theorem conc_cells (p : Pls) (v : AV) : (conc p v).cells = (concL p (cellsA v)).toArray := by
  cases v with
  | agg l => rfl
  | ptr c m off =>
    show _ = (concL p [.ptr c m off]).toArray
    simp only [concL]
    rw [conc]
    cases p c m <;> rfl
  | sl c m off len esz =>
    show _ = (concL p [.sl c m off len esz]).toArray
    simp only [concL]
    rw [conc]
    cases p c m <;> rfl
  | slz c m off a esz =>
    show _ = (concL p [.slz c m off a esz]).toArray
    simp only [concL]
    rw [conc]
    cases p c m <;> rfl
  | mp c =>
    show _ = (concL p [.mp c]).toArray
    simp only [concL]
    rw [conc]
    cases p c 0 <;> rfl
  | _ => rfl
theorem cellsA_wf {h : Hp} {v : AV} (hv : WF h v) : WFL h (cellsA v) := by
  cases v <;> first | exact hv | exact ⟨hv, trivial⟩
theorem conc_one {p : Pls} {h : Hp} (hc : Cov p h) {v : AV} (hv : WF h v) (ho : isCell v = true) : (conc p v).oneCell' = true := by
  cases v with
  | agg l => cases ho
  | tup l => cases ho
  | ptr c m off => obtain ⟨q, _, e⟩ := conc_ptr hc hv; rw [e]; rfl
  | sl c m off len esz => obtain ⟨q, _, e⟩ := conc_sl hc hv; rw [e]; rfl
  | slz c m off a esz =>
    obtain ⟨C, h1, h2⟩ := hv
    obtain ⟨q, hq⟩ := hc c C h1 m h2
    simp only [conc, hq]
    rfl
  | mp c =>
    obtain ⟨C, h1, h2⟩ := hv
    obtain ⟨q, hq⟩ := hc c C h1 0 h2
    simp only [conc, hq]
    rfl
  | _ => rfl

theorem rowHolds {p : Pls} (l : List AV) : ∀ (j : Nat) (v : AV), l[j]? = some v → (concL p l).toArray[j]? = some (conc p v) := fun j v hj => by
  rw [List.getElem?_toArray, concL_get, hj]; rfl
theorem concL_sz (p : Pls) (l : List AV) : (concL p l).toArray.size = l.length := by simp [concL_length]

/-- A variable is made. -/
def allocA (P : Program) (t : TypeId) (st : St) : Option (AV × St) := ob (zeroOf P t) fun l => memRow l st fun _ c st => some (.ptr c 0 0, st)
theorem wf_new (h : Hp) (c : Nat) (ro : Bool) (e vs : Nat) (cs : Option (List AV)) (off : Nat) : WF (upd h c (.row ro [(e, vs, cs)])) (.ptr c 0 off) := ⟨_, upd_self _ _ _, by simp [exts]⟩
theorem conc_new (p : Pls) (c n e : Nat) : conc (plNew p c n e) (.ptr c 0 0) = .pointer (some ⟨n, 0, none⟩) := by simp only [conc, plNew_self]
theorem allocA_ok {P : Program} {t : TypeId} {st st' : St} {v : AV} {R : Operand → Option AV} (h : allocA P t st = some (v, st')) :
    ∃ C, st' = ⟨st.n + 1, st.h.set st.n C⟩ ∧ AlOk P st.n C v (fun ρ _ => do pure (.value (← Instr.alloc t true (.tuple #[])))) R := by
  unfold allocA at h
  obtain ⟨l, hl, h⟩ := ob_eq h
  rw [memRow_eq] at h
  injection h with h
  injection h with h1 h2
  subst h1 h2
  refine ⟨_, rfl, fun g hg _ => ⟨wf_new _ _ _ _ _ _ _, fun w0 p w ρ H _ => ?_⟩⟩
  obtain ⟨z, hz, hc, hw, ho, _⟩ := zeroOf_ok hl p g
  have hs := H.newRow hg l (concL p l).toArray t hw ho (by rw [concL_sz]; exact Nat.le_refl _) (rowHolds l)
  refine ⟨_, _, ?_, hs⟩
  simp only [Instr.alloc, Sem.run_bind, hz, Result.andThen_ok, newVar, newRow, run_newObj, Sem.run_pure, hc, conc_new, World.alloc_eq]

def boxA (v : AV) (st : St) : Option (AV × St) := need (allL isCell (cellsA v)) (memRow (cellsA v) st fun _ c st => some (.ptr c 0 0, st))
theorem boxA_ok {P : Program} {t : TypeId} {st st' : St} {x v : AV} {R : Operand → Option AV} {X : Operand} (h : boxA x st = some (v, st')) (hX : R X = some x) :
    ∃ C, st' = ⟨st.n + 1, st.h.set st.n C⟩ ∧ AlOk P st.n C v (fun ρ _ => do pure (.value (← Instr.box t (ρ X)))) R := by
  unfold boxA at h
  obtain ⟨hcell, h⟩ := need_eq h
  rw [memRow_eq] at h
  injection h with h
  injection h with h1 h2
  subst h1 h2
  rw [allL_eq, List.all_eq_true] at hcell
  refine ⟨_, rfl, fun g hg hw => ⟨wf_new _ _ _ _ _ _ _, fun w0 p w ρ H hR => ?_⟩⟩
  have hs := H.newRow hg (cellsA x) (concL p (cellsA x)).toArray t (cellsA_wf (hw X x hX)) hcell (by rw [concL_sz]; exact Nat.le_refl _) (rowHolds _)
  refine ⟨_, _, ?_, hs⟩
  simp only [Instr.box, (hR X x hX).1, newVar, newRow, Sem.run_bind, run_newObj, Result.andThen_ok, Sem.run_pure, conc_cells, conc_new, World.alloc_eq]

/-! Reading. -/
def rowOf (h : Hp) (c m : Nat) : Option (Nat × Nat × List AV × Bool × List (Nat × Nat × Option (List AV))) := ob (h c) fun C => match C with
  | .row ro ms => ob (nth ms m) fun x => ob x.2.2 fun l => some (x.1, x.2.1, l, ro, ms)
  | _ => none
theorem rowOf_ok {hp : Hp} {c m e vs : Nat} {l : List AV} {ro : Bool} {ms : List (Nat × Nat × Option (List AV))} (h : rowOf hp c m = some (e, vs, l, ro, ms)) : hp c = some (.row ro ms) ∧ ms[m]? = some (e, vs, some l) := by
  unfold rowOf at h
  obtain ⟨C, hC, h⟩ := ob_eq h
  split at h
  · rename_i ro' ms'
    obtain ⟨x, hx, h⟩ := ob_eq h
    obtain ⟨l', hl, h⟩ := ob_eq h
    injection h with h
    simp only [Prod.mk.injEq] at h
    obtain ⟨rfl, rfl, rfl, rfl, rfl⟩ := h
    rw [nth_eq] at hx
    refine ⟨hC, ?_⟩
    rw [hx]
    obtain ⟨a, b, d⟩ := x
    simp only at hl
    rw [hl]
  · cases h
/-- The cells of a live member, in the model. -/
theorem HR.read {w0 : World} {p : Pls} {h : Hp} {w : World} {c m e vs : Nat} {l : List AV} {ro : Bool} {ms : List (Nat × Nat × Option (List AV))} (H : HR w0 p h w) (hc : h c = some (.row ro ms)) (hm : ms[m]? = some (e, vs, some l)) :
    ∃ q arr el, p c m = some q ∧ CellsAt ro w q.b arr el ∧ q.d + q.e ≤ arr.size ∧ e ≤ q.e ∧ l.length = e ∧ WFL h l ∧ (∀ v ∈ l, isCell v = true) ∧ (∀ j v, l[j]? = some v → arr[q.d + j]? = some (conc p v)) ∧
      ∀ j v, (concL p l)[j]? = some v → w.cell? ⟨q.b, q.d + j, none⟩ = some v := by
  obtain ⟨q, arr, el, h1, h2, h3, h4, h5, h6⟩ := (H.cls c _ hc).mem m e vs _ hm
  obtain ⟨k1, k2⟩ := h6 l rfl
  refine ⟨q, arr, el, h1, h2, h3, h4, k1, (WFL_iff h l).2 fun v hv => ?_, fun v hv => ?_, fun j v hj => (k2 j v hj).1, fun j v hj => ?_⟩
  · obtain ⟨j, hj⟩ := List.getElem?_of_mem hv
    exact (k2 j v hj).2.1
  · obtain ⟨j, hj⟩ := List.getElem?_of_mem hv
    exact (k2 j v hj).2.2
  · rw [concL_get] at hj
    cases hl : l[j]? with
    | none => rw [hl] at hj; cases hj
    | some x =>
      rw [hl] at hj
      injection hj with hj
      subst hj
      obtain ⟨fr, hfr, _⟩ := h2
      rw [cell_of_row w q.b (q.d + j) arr el fr hfr]
      exact (k2 j x hl).1
/-- What a row of the model's reads from a place on. -/
theorem HR.loads {P : Program} {w0 : World} {p : Pls} {h : Hp} {w : World} {q : Pl} {l : List AV} (hr : ∀ j v, (concL p l)[j]? = some v → w.cell? ⟨q.b, q.d + j, none⟩ = some v) (off n : Nat) (hn : n ≤ (l.drop off).length) :
    (loadCells ⟨q.b, q.d + off, none⟩ n).run P w = .ok (concL p ((l.drop off).take n)).toArray w := by
  have hlen : (concL p ((l.drop off).take n)).length = n := by rw [concL_length, List.length_take]; omega
  have := run_loadCells_list (P := P) w ⟨q.b, q.d + off, none⟩ (concL p ((l.drop off).take n)) (fun j v hj => by
    rw [add_zero_off, Nat.add_assoc]
    apply hr
    rw [concL_take, concL_drop, List.getElem?_take] at hj
    split at hj
    · rw [List.getElem?_drop] at hj; exact hj
    · cases hj)
  rw [hlen] at this
  exact this

def loadA (P : Program) (t : TypeId) (x : AV) (h : Hp) : Option AV := match x with
  | .ptr c m off => ob (rowOf h c m) fun r => partA P t r.2.2.1 off
  | _ => none
theorem loadA_ok {P : Program} {t : TypeId} {hp : Hp} {x v : AV} (h : loadA P t x hp = some v) {w0 : World} {p : Pls} {w : World} (H : HR w0 p hp w) :
    (Instr.loadAt t (conc p x)).run P w = .ok (conc p v) w ∧ WF hp v := by
  unfold loadA at h
  split at h
  · rename_i c m off
    obtain ⟨⟨e, vs, l, ro, ms⟩, hr, h⟩ := ob_eq h
    obtain ⟨hc, hm⟩ := rowOf_ok hr
    obtain ⟨q, arr, el, hq, hb, _, _, _, hwl, _, _, hcell⟩ := H.read hc hm
    have e1 : conc p (.ptr c m off) = .pointer (some ⟨q.b, q.d + off, none⟩) := by simp only [conc, hq]
    rw [e1]
    unfold partA at h
    simp only at h
    split at h
    · rename_i n hk
      obtain ⟨h1, h2⟩ := tk_agg hk w
      obtain ⟨h3, h4⟩ := takeK_eq _ _ _ _ h
      injection h4 with h4
      subst h4
      rw [dropN_eq] at h3 ⊢
      refine ⟨?_, WFL.sub hwl fun v hv => List.mem_of_mem_drop (List.mem_of_mem_take hv)⟩
      simp only [Instr.loadAt, Instr.sureAddr, loadVar, Sem.run_bind, Sem.run_pure, Result.andThen_ok, h1, if_true, h2, HR.loads (P := P) (w0 := w0) (h := hp) hcell off n h3, conc]
    · rename_i hk
      obtain ⟨h1, _⟩ := tk_one hk w
      rw [nth_eq] at h
      refine ⟨?_, hwl.get h⟩
      have := hcell off (conc p v) (by rw [concL_get, h]; rfl)
      simp [Instr.loadAt, Instr.sureAddr, loadVar, h1, this]
    · cases h
  · cases h

/-! Writing. -/
/-- Members that reach into a stretch die. -/
def killMs (lo hi : Nat) (ms : List (Nat × Nat × Option (List AV))) : List (Nat × Nat × Option (List AV)) :=
  mapL (fun x => bif' (Nat.ble (x.2.1 + x.1) lo) x (bif' (Nat.ble hi x.2.1) x (x.1, x.2.1, none))) ms
theorem killMs_get {lo hi : Nat} {ms : List (Nat × Nat × Option (List AV))} {m e vs : Nat} {cs : Option (List AV)} (h : (killMs lo hi ms)[m]? = some (e, vs, cs)) :
    ∃ cs0, ms[m]? = some (e, vs, cs0) ∧ (cs = none ∨ (cs = cs0 ∧ (vs + e ≤ lo ∨ hi ≤ vs))) := by
  unfold killMs at h
  rw [mapL_eq, List.getElem?_map] at h
  cases hm : ms[m]? with
  | none => rw [hm] at h; cases h
  | some x =>
    obtain ⟨a, b, d⟩ := x
    rw [hm] at h
    simp only [Option.map_some, Option.some.injEq] at h
    cases h1 : Nat.ble (b + a) lo with
    | true =>
      rw [h1, bif_true] at h
      simp only [Prod.mk.injEq] at h
      obtain ⟨rfl, rfl, rfl⟩ := h
      exact ⟨_, rfl, .inr ⟨rfl, .inl (Nat.le_of_ble_eq_true h1)⟩⟩
    | false =>
      rw [h1, bif_false] at h
      cases h2 : Nat.ble hi b with
      | true =>
        rw [h2, bif_true] at h
        simp only [Prod.mk.injEq] at h
        obtain ⟨rfl, rfl, rfl⟩ := h
        exact ⟨_, rfl, .inr ⟨rfl, .inr (Nat.le_of_ble_eq_true h2)⟩⟩
      | false =>
        rw [h2, bif_false] at h
        simp only [Prod.mk.injEq] at h
        obtain ⟨rfl, rfl, rfl⟩ := h
        exact ⟨_, rfl, .inl rfl⟩
theorem killMs_length (lo hi : Nat) (ms : List (Nat × Nat × Option (List AV))) : (killMs lo hi ms).length = ms.length := by unfold killMs; rw [mapL_eq, List.length_map]
theorem killMs_told (lo hi : Nat) (ms : List (Nat × Nat × Option (List AV))) : Told ms (killMs lo hi ms) :=
  ⟨killMs_length _ _ _, fun m e vs cs hm => by obtain ⟨cs0, h, _⟩ := killMs_get hm; exact ⟨cs0, h⟩⟩
def setN {α : Type} (x : α) (l : List α) : Nat → List α := List.rec (fun _ => []) (fun a t ih i => Nat.rec (x :: t) (fun j _ => a :: ih j) i) l
theorem setN_eq {α : Type} (x : α) (l : List α) (i : Nat) : setN x l i = l.set i x := by
  induction l generalizing i with
  | nil => cases i <;> rfl
  | cons a l ih => cases i with
    | zero => rfl
    | succ i => exact congrArg (a :: ·) (ih i)

def sizeA (P : Program) (t : TypeId) : Option Nat := match tk P t with
  | .agg n => some n
  | .one => some (P.cellsOf t)
  | .bad => none
theorem sizeA_ok {P : Program} {t : TypeId} {n : Nat} (h : sizeA P t = some n) (w : World) : (sizeOf t).run P w = .ok n w := by
  unfold sizeA at h
  split at h
  · rename_i k hk; injection h with h; subst h; exact (tk_agg hk w).2
  · rename_i hk; injection h with h; subst h; exact (tk_one hk w).2
  · cases h
def storeA (P : Program) (t : TypeId) (x y : AV) (st : St) : Option (AV × St) := match x with
  | .ptr c m off => ob (rowOf st.h.get c m) fun r => ob (sizeA P t) fun n => need (Nat.beq (lenL (cellsA y)) n) (need (!r.2.2.2.1) (need (allL isCell (cellsA y)) (ob (overL (cellsA y) off r.2.2.1) fun l =>
      sList l fun l => sList (setN (r.1, r.2.1, some l) (killMs (r.2.1 + off) (r.2.1 + off + n) r.2.2.2.2) m) fun ms => withCls st c (.row false ms) fun st => some (.tup [], st))))
  | _ => none
theorem list_seg_get {α : Type} (cur : List α) (o : Nat) (vs : List α) (h : o + vs.length ≤ cur.length) (j : Nat) :
    (cur.take o ++ vs ++ cur.drop (o + vs.length))[j]? = if o ≤ j ∧ j < o + vs.length then vs[j - o]? else cur[j]? := by
  have hto : (cur.take o).length = o := by rw [List.length_take]; omega
  by_cases h1 : j < o
  · rw [if_neg (by omega), List.append_assoc, List.getElem?_append_left (by omega), List.getElem?_take, if_pos h1]
  · by_cases h2 : j < o + vs.length
    · rw [if_pos ⟨by omega, h2⟩, List.append_assoc, List.getElem?_append_right (by omega), List.getElem?_append_left (by omega), hto]
    · rw [if_neg (by omega), List.getElem?_append_right (by rw [List.length_append]; omega), List.getElem?_drop, List.length_append, hto]
      congr 1
      omega

/-- A stretch of a live member is written. -/
theorem HR.store {w0 : World} {p : Pls} {h : Hp} {w : World} {c m e vs off : Nat} {l r src : List AV} {ms : List (Nat × Nat × Option (List AV))} (H : HR w0 p h w) (hc : h c = some (.row false ms)) (hm : ms[m]? = some (e, vs, some l))
    (ho : overL src off l = some r) (hwf : WFL h src) (hcell : ∀ v ∈ src, isCell v = true) {q : Pl} {arr : Array Value} {el : TypeId} (hq : p c m = some q) (hb : w.heap[q.b]? = some (.cells arr el (0, 0))) :
    Step w0 p w p (upd h c (.row false ((killMs (vs + off) (vs + off + src.length) ms).set m (e, vs, some r)))) (w.setRow q.b ((arr.toList.take (q.d + off) ++ concL p src ++ arr.toList.drop (q.d + off + src.length)).toArray)) := by
  obtain ⟨q', arr', el', h1, h2, h3, h4, h5, h6, h7, h8, _⟩ := H.read hc hm
  replace h2 := h2.own
  rw [hq] at h1; injection h1 with h1; subst h1
  rw [hb] at h2; injection h2 with h2; injection h2 with h2 h2'; subst h2
  obtain ⟨o1, o2, o3⟩ := overL_spec _ _ _ _ ho
  have hfit : q.d + off + src.length ≤ arr.size := by omega
  have hcl : (concL p src).length = src.length := concL_length p src
  have hseg : ∀ j, ((arr.toList.take (q.d + off) ++ concL p src ++ arr.toList.drop (q.d + off + src.length)).toArray)[j]? = if q.d + off ≤ j ∧ j < q.d + off + src.length then (concL p src)[j - (q.d + off)]? else arr[j]? := by
    intro j
    have := list_seg_get arr.toList (q.d + off) (concL p src) (by simp [hcl]; omega) j
    rw [hcl] at this
    have e : arr.toList[j]? = arr[j]? := Array.getElem?_toList
    rw [List.getElem?_toArray, this, e]
  have hsz : ((arr.toList.take (q.d + off) ++ concL p src ++ arr.toList.drop (q.d + off + src.length)).toArray).size = arr.size := by
    simp [hcl]; omega
  refine H.over hc ⟨?_, fun m' e' vs' cs hm' => ?_⟩ hb hsz hq rfl fun m' e' vs' l' q' hm' hq' => ⟨fun hbb => ?_, fun hbb => ?_⟩
  · rw [List.length_set, killMs_length]
  · by_cases hmm : m' = m
    · subst hmm
      rw [List.getElem?_set_self (by rw [killMs_length]; exact (List.getElem?_eq_some_iff.1 hm).1)] at hm'
      injection hm' with hm'
      simp only [Prod.mk.injEq] at hm'
      obtain ⟨rfl, rfl, rfl⟩ := hm'
      exact ⟨_, hm⟩
    · rw [List.getElem?_set_ne (Ne.symm hmm)] at hm'
      obtain ⟨cs0, k1, _⟩ := killMs_get hm'
      exact ⟨cs0, k1⟩
  · by_cases hmm : m' = m
    · subst hmm
      rw [List.getElem?_set_self (by rw [killMs_length]; exact (List.getElem?_eq_some_iff.1 hm).1)] at hm'
      injection hm' with hm'
      simp only [Prod.mk.injEq, Option.some.injEq] at hm'
      obtain ⟨rfl, rfl, rfl⟩ := hm'
      rw [hq] at hq'; injection hq' with hq'; subst hq'
      refine ⟨o2.trans h5, fun j v hj => ?_⟩
      rw [o3] at hj
      rw [hseg]
      split at hj
      · rename_i hjj
        rw [if_pos (by omega), show q.d + j - (q.d + off) = j - off by omega, concL_get, hj]
        exact ⟨rfl, hwf.get hj, hcell v (List.mem_of_getElem? hj)⟩
      · rename_i hjj
        rw [if_neg (by omega)]
        exact ⟨h8 j v hj, h6.get hj, h7 v (List.mem_of_getElem? hj)⟩
    · rw [List.getElem?_set_ne (Ne.symm hmm)] at hm'
      obtain ⟨cs0, k1, k2⟩ := killMs_get hm'
      rcases k2 with k2 | ⟨k2, k3⟩
      · cases k2
      · subst k2
        obtain ⟨q2, arr2, el2, i1, i2, i3, i4, i5, i6, i7, i8, _⟩ := H.read hc k1
        replace i2 := i2.own
        rw [hq'] at i1; injection i1 with i1; subst i1
        rw [hbb, hb] at i2; injection i2 with i2; injection i2 with i2 _; subst i2
        have hsm := (H.cls c _ hc).same m' e' vs' (some l') m e vs (some l) q' q k1 hm hq' hq hbb
        refine ⟨i5, fun j v hj => ?_⟩
        have hjl : j < l'.length := (List.getElem?_eq_some_iff.1 hj).1
        rw [hseg, if_neg (by omega)]
        exact ⟨i8 j v hj, i6.get hj, i7 v (List.mem_of_getElem? hj)⟩
  · by_cases hmm : m' = m
    · subst hmm
      rw [hq] at hq'; injection hq' with hq'; subst hq'
      exact absurd rfl hbb
    · rw [List.getElem?_set_ne (Ne.symm hmm)] at hm'
      obtain ⟨cs0, k1, k2⟩ := killMs_get hm'
      rcases k2 with k2 | ⟨k2, _⟩
      · cases k2
      · subst k2; exact k1

theorem set_exts {ms : List (Nat × Nat × Option (List AV))} {m e vs lo hi : Nat} {cs cs' : Option (List AV)} (hm : ms[m]? = some (e, vs, cs)) : exts (.row false ((killMs lo hi ms).set m (e, vs, cs'))) = exts (.row false ms) := by
  simp only [exts]
  apply List.ext_getElem?
  intro j
  rw [List.getElem?_map, List.getElem?_map]
  have hk := (killMs_told lo hi ms).exts
  have hk' := congrArg (·[j]?) hk
  simp only [List.getElem?_map] at hk'
  by_cases hj : j = m
  · subst hj
    rw [List.getElem?_set_self (by rw [killMs_length]; exact (List.getElem?_eq_some_iff.1 hm).1), hm]
    rfl
  · rw [List.getElem?_set_ne (Ne.symm hj)]
    exact hk'

theorem storeA_ok {P : Program} {t : TypeId} {st st' : St} {x y v : AV} {R : Operand → Option AV} {X Y : Operand} (h : storeA P t x y st = some (v, st')) (hX : R X = some x) (hY : R Y = some y) (hy : WF st.h.get y) :
    OpOk P st st' v (fun ρ _ => do Instr.storeAt t (ρ X) (ρ Y); pure .skip) R := by
  unfold storeA at h
  split at h
  · rename_i c m off
    obtain ⟨⟨e, vs, l, ro, ms⟩, hr, h⟩ := ob_eq h
    obtain ⟨n, hn, h⟩ := ob_eq h
    obtain ⟨h1, h⟩ := need_eq h
    obtain ⟨h2, h⟩ := need_eq h
    obtain ⟨h3, h⟩ := need_eq h
    obtain ⟨r, ho, h⟩ := ob_eq h
    rw [sList_eq, sList_eq, withCls_eq] at h
    injection h with h
    injection h with e1 e2
    subst e1 e2
    obtain ⟨hc, hm⟩ := rowOf_ok hr
    simp only at h2 ho ⊢
    have hro : ro = false := by cases ro <;> simp_all
    subst hro
    have h1 := Nat.eq_of_beq_eq_true h1
    rw [lenL_eq] at h1
    subst h1
    rw [allL_eq, List.all_eq_true] at h3
    rw [setN_eq]
    refine ⟨ab_set hc (by rw [set_exts hm]; exact List.prefix_refl _), trivial, fun w0 p w ρ H hR => ?_⟩
    obtain ⟨q, arr, el, hq, hb, k1, k2, k3, k4, k5, k6, k7⟩ := H.read hc hm
    replace hb := hb.own
    have hstep := H.store hc hm ho (cellsA_wf hy) h3 hq hb
    refine ⟨p, _, .inr ⟨?_, rfl⟩, by rw [set_upd]; exact hstep⟩
    obtain ⟨o1, o2, o3⟩ := overL_spec _ _ _ _ ho
    have hone : ∀ u ∈ concL p (cellsA y), u.oneCell' = true := by
      intro u hu
      rw [concL_eq, List.mem_map] at hu
      obtain ⟨a, ha, rfl⟩ := hu
      exact conc_one H.cov ((WFL_iff _ _).1 (cellsA_wf hy) a ha) (h3 a ha)
    have hst := run_storeCells_at P q.b (q.d + off) el (concL p (cellsA y)) 0 arr w hb (by rw [concL_length]; omega) hone
    have e3 : ρ X = .pointer (some ⟨q.b, q.d + off, none⟩) := by rw [(hR X _ hX).1]; simp only [conc, hq]
    have hsz : (concL p (cellsA y)).toArray.size = (cellsA y).length := by simp [concL_length]
    simp only [Nat.add_zero, concL_length] at hst
    simp only [Instr.storeAt, e3, Instr.sureAddr, storeVar, Sem.run_bind, Sem.run_pure, Result.andThen_ok, (hR Y y hY).1, conc_cells, sizeA_ok hn w, hsz, ne_eq, not_true_eq_false, if_false, hst]
  · cases h

end
end Go.Proofs.Ytmjnbdkjekdkgaa
