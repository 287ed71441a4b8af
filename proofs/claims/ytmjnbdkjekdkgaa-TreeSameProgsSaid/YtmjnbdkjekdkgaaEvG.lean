/-
  A reckoner for closed calls: literals, ranges over texts, builtins.
-/
import Derived.Test.YtmjnbdkjekdkgaaEvF
namespace Go.Proofs.Ytmjnbdkjekdkgaa
open Go
set_option linter.unusedVariables false
set_option linter.unusedSimpArgs false

noncomputable section

/-! A range over a text. -/
def rangeA (P : Program) (t : TypeId) (x : AV) (st : St) : Option (AV × St) := match x with
  | .str l => (match P.underlying t with
    | some .string => newCls st (.iter l l 0) fun c st => some (.ptr c 0 0, st)
    | _ => none)
  | _ => none
theorem rangeA_ok {P : Program} {t : TypeId} {st st' : St} {x v : AV} {R : Operand → Option AV} {X : Operand} (h : rangeA P t x st = some (v, st')) (hX : R X = some x) :
    ∃ C, st' = ⟨st.n + 1, st.h.set st.n C⟩ ∧ AlOk P st.n C v (fun ρ _ => do pure (.value (← Instr.range t (ρ X)))) R := by
  unfold rangeA at h
  split at h
  · rename_i l
    split at h
    · rename_i hd
      rw [newCls_eq] at h
      injection h with h
      injection h with h1 h2
      subst h1 h2
      refine ⟨_, rfl, fun g hg hw => ⟨⟨_, upd_self _ _ _, by simp [exts]⟩, fun w0 p w ρ H hR => ?_⟩⟩
      refine ⟨_, _, ?_, H.newIter hg l (hw X _ hX)⟩
      dsimp only
      rw [(hR X _ hX).1]
      simp only [conc, Sem.run_bind, run_range_string w t _ hd, Result.andThen_ok, Sem.run_pure, plNew_self]
      rfl
    · cases h
  · cases h
def nth0 (l : List Nat) (i : Nat) : Nat := Option.rec 0 (fun x => x) (nth l i)
/-- The rune with which a text goes on. -/
def decA (r : List Nat) : Nat × Nat := bif' (Nat.ble (nth0 r 0 + 1) 128) (nth0 r 0, 1) (Lib.decodeN (lenL r) (nth0 r 0) (nth0 r 1) (nth0 r 2) (nth0 r 3))
theorem get_nth0 {s : List Nat} (hs : Bytes s) (i : Nat) : ((bytesOf s).get! i).toNat = (s[i]?).getD 0 := by
  have h1 : (bytesOf s).size = s.length := size_bytesOf s
  by_cases hi : i < s.length
  · have : (bytesOf s).get! i = UInt8.ofNat (s[i]) := by
      show (bytesOf s).data[i]! = _
      have h2 : i < (bytesOf s).data.size := by
        have : (bytesOf s).data.size = s.length := h1
        omega
      rw [getElem!_pos _ i h2]
      simp [bytesOf]
    rw [this, List.getElem?_eq_getElem hi]
    have := hs s[i] (List.getElem_mem hi)
    simp
    omega
  · have : (bytesOf s).get! i = default := by
      show (bytesOf s).data[i]! = _
      have h2 : ¬ i < (bytesOf s).data.size := by
        have : (bytesOf s).data.size = s.length := h1
        omega
      rw [getElem!_neg _ i h2]
    rw [this, List.getElem?_eq_none (by omega)]
    rfl
theorem nth0_eq (l : List Nat) (i : Nat) : nth0 l i = (l[i]?).getD 0 := by
  unfold nth0
  rw [nth_eq]
  cases l[i]? <;> rfl
theorem decA_eq {s : List Nat} (hs : Bytes s) (pos : Nat) (hp : pos < s.length) : decA (s.drop pos) = Utf8.decode (bytesOf s) pos := by
  rw [Lib.decode_at, get_nth0 hs, get_nth0 hs, get_nth0 hs, get_nth0 hs, size_bytesOf]
  unfold decA
  rw [nth0_eq, nth0_eq, nth0_eq, nth0_eq, lenL_eq, List.getElem?_drop, List.getElem?_drop, List.getElem?_drop, List.getElem?_drop, List.length_drop]
  simp only [Nat.add_zero]
  cases h : Nat.ble ((s[pos]?).getD 0 + 1) 128 with
  | false => rfl
  | true =>
    rw [bif_true]
    have := Nat.le_of_ble_eq_true h
    unfold Lib.decodeN
    rw [if_pos (by omega)]
def nextA (x : AV) (st : St) : Option (AV × St) := match x with
  | .ptr c m off => need (Nat.beq m 0) (need (Nat.beq off 0) (ob (st.h.get c) fun C => match C with
    | .iter s r pos => List.rec (some (.tup [.bool false], st)) (fun b t _ => sNat (decA (b :: t)).1 fun k => sNat (decA (b :: t)).2 fun n => sNat (pos + n) fun pos' => sList (dropN n (b :: t)) fun r' =>
        withCls st c (.iter s r' pos') fun st => some (.tup [.bool true, .int .i64 (Int.ofNat pos), .int .i32 (Int.ofNat k)], st)) r
    | _ => none))
  | _ => none
theorem nextA_ok {P : Program} {ty : TypeId} {st st' : St} {x v : AV} {R : Operand → Option AV} {X : Operand} (h : nextA x st = some (v, st')) (hX : R X = some x) :
    OpOk P st st' v (fun ρ _ => do pure (.value (← Instr.next (ρ X) true ty))) R := by
  unfold nextA at h
  split at h
  · rename_i c m off
    obtain ⟨h1, h⟩ := need_eq h
    obtain ⟨h2, h⟩ := need_eq h
    have h1 := Nat.eq_of_beq_eq_true h1
    have h2 := Nat.eq_of_beq_eq_true h2
    subst h1 h2
    obtain ⟨C, hC, h⟩ := ob_eq h
    split at h
    · rename_i s r pos
      cases r with
      | nil =>
        injection h with h
        injection h with e1 e2
        subst e1 e2
        refine ⟨Ab.refl _, ⟨trivial, trivial⟩, fun w0 p w ρ H hR => ?_⟩
        obtain ⟨q, hq, hw, hr, hs, hn, hd, _⟩ := H.cls c _ hC
        have hlen : ¬ pos < (bytesOf s).size := by
          rw [size_bytesOf]
          intro hlt
          rw [List.drop_eq_getElem_cons hlt] at hr
          cases hr
        refine ⟨p, w, .inl ?_, Step.refl H⟩
        rw [(hR X _ hX).1]
        simp only [conc, hq, hd, Nat.add_zero, Instr.next, getObj, Sem.run_bind, Sem.run, hw, Result.andThen_ok, hlen, if_false, Sem.run_pure]
        rfl
      | cons b t =>
        simp only [sNat_eq, sList_eq, withCls_eq, dropN_eq] at h
        injection h with h
        injection h with e1 e2
        subst e1 e2
        refine ⟨ab_set hC (List.prefix_refl _), ⟨trivial, trivial, trivial, trivial⟩, fun w0 p w ρ H hR => ?_⟩
        obtain ⟨q, hq, hw, hr, hs, hn, hd, _⟩ := H.cls c _ hC
        have hlt : pos < s.length := by
          refine Nat.lt_of_not_le fun hge => ?_
          rw [List.drop_eq_nil_of_le hge] at hr
          cases hr
        have hdec := decA_eq hs pos hlt
        rw [← hr] at hdec
        rw [hdec]
        have hlt' : pos < (bytesOf s).size := by rw [size_bytesOf]; exact hlt
        have hst := H.nextIter hC q hq (pos + (Utf8.decode (bytesOf s) pos).2)
        rw [← List.drop_drop, ← hr] at hst
        refine ⟨p, _, .inl ?_, by rw [set_upd]; exact hst⟩
        rw [(hR X _ hX).1]
        simp only [conc, hq, hd, Nat.add_zero, Instr.next, getObj, setObj, Sem.run_bind, Sem.run, hw, Result.andThen_ok, hlt', if_true, Sem.run_pure]
        rfl
    · cases h
  · cases h

/-! Literals. -/
def fillA (place : Nat → Option (Nat × Nat)) (parts : List (Nat × AV)) : List AV → Option (List AV) :=
  List.rec (fun l => some l) (fun q _ ih l => ob (place q.1) fun os => need (Nat.beq (lenL (cellsA q.2)) os.2) (ob (overL (cellsA q.2) os.1 l) ih)) parts
theorem fillA_cons (place : Nat → Option (Nat × Nat)) (q : Nat × AV) (parts : List (Nat × AV)) (l : List AV) :
    fillA place (q :: parts) l = ob (place q.1) fun os => need (Nat.beq (lenL (cellsA q.2)) os.2) (ob (overL (cellsA q.2) os.1 l) (fillA place parts)) := rfl
theorem fold_over (off : Nat) : ∀ (src : List Value) (j0 : Nat) (cells : Array Value), (List.foldl (fun (cs : Array Value) (x : Value × Nat) => cs.setIfInBounds (off + x.2) x.1) cells (src.zipIdx j0)).size = cells.size ∧
    (off + j0 + src.length ≤ cells.size → ∀ i : Nat, (List.foldl (fun (cs : Array Value) (x : Value × Nat) => cs.setIfInBounds (off + x.2) x.1) cells (src.zipIdx j0))[i]? = if off + j0 ≤ i ∧ i < off + j0 + src.length then src[i - (off + j0)]? else cells[i]?) := by
  intro src
  induction src with
  | nil => intro j0 cells; exact ⟨rfl, fun _ i => by rw [if_neg (by simp)]; rfl⟩
  | cons v src ih =>
    intro j0 cells
    obtain ⟨h1, h2⟩ := ih (j0 + 1) (cells.setIfInBounds (off + j0) v)
    rw [List.zipIdx_cons, List.foldl_cons]
    refine ⟨by rw [h1]; simp, fun hf i => ?_⟩
    simp only [List.length_cons] at hf
    rw [h2 (by rw [Array.size_setIfInBounds]; omega)]
    by_cases hi : off + j0 = i
    · subst hi
      rw [if_neg (by omega), if_pos (by simp), Nat.sub_self, Array.getElem?_setIfInBounds_self_of_lt (by omega)]
      rfl
    · by_cases hlt : off + j0 ≤ i ∧ i < off + j0 + (v :: src).length
      · rw [if_pos hlt]
        simp only [List.length_cons] at hlt
        rw [if_pos (by omega), show i - (off + j0) = (i - (off + (j0 + 1))) + 1 by omega, List.getElem?_cons_succ]
      · rw [if_neg hlt]
        simp only [List.length_cons] at hlt
        rw [if_neg (by omega), Array.getElem?_setIfInBounds_ne hi]
theorem over_array {src l r : List AV} {off : Nat} (h : overL src off l = some r) (p : Pls) :
    (concL p src).toArray.zipIdx.foldl (fun (cs : Array Value) (x : Value × Nat) => cs.setIfInBounds (off + x.2) x.1) (concL p l).toArray = (concL p r).toArray := by
  obtain ⟨h1, h2, h3⟩ := overL_spec _ _ _ _ h
  rw [← Array.foldl_toList, Array.toList_zipIdx]
  obtain ⟨k1, k2⟩ := fold_over off (concL p src) 0 (concL p l).toArray
  apply Array.ext_getElem?
  intro i
  have := k2 (by simp [concL_length]; omega) i
  show (List.foldl (fun (cs : Array Value) (x : Value × Nat) => cs.setIfInBounds (off + x.2) x.1) (concL p l).toArray ((concL p src).zipIdx 0))[i]? = _
  rw [this]
  simp only [Nat.add_zero, concL_length, List.getElem?_toArray, concL_get, h3]
  split <;> rfl
theorem fillA_ok {place : Nat → Option (Nat × Nat)} (p : Pls) (hp : Hp) : ∀ (parts : List (Nat × AV)) (l r : List AV), fillA place parts l = some r → WFL hp l → (∀ x ∈ parts, WF hp x.2) →
    Instr.fill place (concL p l).toArray (parts.map fun x => (x.1, conc p x.2)) = some (concL p r).toArray ∧ WFL hp r ∧ r.length = l.length ∧ ((∀ v ∈ l, isCell v = true) → (∀ x ∈ parts, ∀ v ∈ cellsA x.2, isCell v = true) → ∀ v ∈ r, isCell v = true) := by
  intro parts
  induction parts with
  | nil => intro l r h hl _; injection h with h; subst h; exact ⟨rfl, hl, rfl, fun h _ => h⟩
  | cons q parts ih =>
    intro l r h hl hq
    rw [fillA_cons] at h
    obtain ⟨⟨off, size⟩, hpl, h⟩ := ob_eq h
    obtain ⟨hb, h⟩ := need_eq h
    obtain ⟨l1, ho, h⟩ := ob_eq h
    have hb := Nat.eq_of_beq_eq_true hb
    rw [lenL_eq] at hb
    obtain ⟨o1, o2, o3⟩ := overL_spec _ _ _ _ ho
    have hmem : ∀ v ∈ l1, v ∈ l ∨ v ∈ cellsA q.2 := by
      intro v hv
      obtain ⟨j, hj⟩ := List.getElem?_of_mem hv
      rw [o3] at hj
      split at hj
      · exact .inr (List.mem_of_getElem? hj)
      · exact .inl (List.mem_of_getElem? hj)
    have hl1 : WFL hp l1 := (WFL_iff hp l1).2 fun v hv => by
      rcases hmem v hv with h | h
      · exact (WFL_iff hp l).1 hl v h
      · exact (WFL_iff hp _).1 (cellsA_wf (hq q (by simp))) v h
    obtain ⟨i1, i2, i3, i4⟩ := ih l1 r h hl1 fun x hx => hq x (by simp [hx])
    refine ⟨?_, i2, i3.trans o2, fun hc hpc => i4 (fun v hv => ?_) fun x hx => hpc x (by simp [hx])⟩
    · simp only [List.map_cons, Instr.fill, hpl, conc_cells]
      have e1 : (concL p (cellsA q.2)).toArray.size = size := by simp [concL_length, hb]
      have e2 : ¬ (off + size > (concL p l).toArray.size) := by simp [concL_length]; omega
      rw [e1]
      simp only [ne_eq, not_true_eq_false, decide_false, Bool.false_or, decide_eq_true_eq, e2, if_false, over_array ho p, false_or]
      exact i1
    · rcases hmem v hv with h | h
      · exact hc v h
      · exact hpc q (by simp) v h
def partsV (R : Operand → Option AV) (parts : Array (Nat × Operand)) : Option (List (Nat × AV)) := mapO (fun x => ob (R x.2) fun v => some (x.1, v)) parts.toList
theorem partsV_ok {R : Operand → Option AV} {ρ : Operand → Value} {p : Pls} {hp : Hp} (hR : RFit R ρ p hp) : ∀ (l : List (Nat × Operand)) (r : List (Nat × AV)), mapO (fun x => ob (R x.2) fun v => some (x.1, v)) l = some r →
    (l.map fun x => (x.1, ρ x.2)) = r.map (fun x => (x.1, conc p x.2)) ∧ ∀ x ∈ r, WF hp x.2 := by
  intro l
  induction l with
  | nil => intro r h; injection h with h; subst h; exact ⟨rfl, by simp⟩
  | cons x l ih =>
    intro r h
    rw [mapO_cons] at h
    obtain ⟨b, hb, h⟩ := ob_eq h
    obtain ⟨t, ht, h⟩ := ob_eq h
    injection h with h
    subst h
    obtain ⟨v, hv, hb⟩ := ob_eq hb
    injection hb with hb
    subst hb
    obtain ⟨h1, h2⟩ := ih t ht
    obtain ⟨k1, k2⟩ := hR _ _ hv
    refine ⟨by simp only [List.map_cons, h1, k1], fun y hy => ?_⟩
    rcases List.mem_cons.1 hy with rfl | hy
    · exact k2
    · exact h2 y hy
theorem parts_wf {R : Operand → Option AV} {hp : Hp} (hw : ∀ x v, R x = some v → WF hp v) : ∀ (l : List (Nat × Operand)) (r : List (Nat × AV)), mapO (fun x => ob (R x.2) fun v => some (x.1, v)) l = some r → ∀ x ∈ r, WF hp x.2 := by
  intro l
  induction l with
  | nil => intro r h; injection h with h; subst h; simp
  | cons x l ih =>
    intro r h
    rw [mapO_cons] at h
    obtain ⟨b, hb, h⟩ := ob_eq h
    obtain ⟨t, ht, h⟩ := ob_eq h
    injection h with h
    subst h
    obtain ⟨v, hv, hb⟩ := ob_eq hb
    injection hb with hb
    subst hb
    intro y hy
    rcases List.mem_cons.1 hy with rfl | hy
    · exact hw _ _ hv
    · exact ih t ht y hy

def fieldsTyped (P : Program) (fs : Array Field) : Bool := fs.toList.all fun f => (P.underlying f.type).isSome
def placeS (P : Program) (fs : Array Field) (i : Nat) : Option (Nat × Nat) := ob (nth fs.toList i) fun f => some (f.offset, P.cellsOf f.type)
theorem mapM_places {P : Program} (fs : List Field) (h : ∀ f ∈ fs, (P.underlying f.type).isSome = true) (w : World) :
    (fs.mapM fun f => do pure (f.offset, ← sizeOf f.type) : Sem (List (Nat × Nat))).run P w = .ok (fs.map fun f => (f.offset, P.cellsOf f.type)) w := by
  induction fs with
  | nil => rfl
  | cons f fs ih =>
    obtain ⟨d, hd⟩ := Option.isSome_iff_exists.mp (h f (by simp))
    rw [List.mapM_cons]
    simp only [Sem.run_bind, run_sizeOf' hd, Result.andThen_ok, Sem.run_pure, ih fun f hf => h f (by simp [hf]), List.map_cons]
def buildA (P : Program) (t : TypeId) (parts : Array (Nat × Operand)) (R : Operand → Option AV) : Option AV := match P.underlying t with
  | some (.struct fs) => need (fieldsTyped P fs) (ob (zeroOf P t) fun z => ob (partsV R parts) fun ps => ob (fillA (placeS P fs) ps z) fun r => sList r fun r => some (.agg r))
  | some (.array _ e) => need (P.underlying e).isSome (ob (zeroOf P t) fun z => ob (partsV R parts) fun ps => ob (fillA (fun i => some (i * P.cellsOf e, P.cellsOf e)) ps z) fun r => sList r fun r => some (.agg r))
  | _ => none
theorem buildA_ok {P : Program} {t : TypeId} {parts : Array (Nat × Operand)} {R : Operand → Option AV} {v : AV} (h : buildA P t parts R = some v) {ρ : Operand → Value} {p : Pls} {hp : Hp} (hR : RFit R ρ p hp) (w : World) :
    (Instr.build t (parts.map fun (i, x) => (i, ρ x))).run P w = .ok (conc p v) w ∧ WF hp v := by
  unfold buildA at h
  split at h
  · rename_i fs hd
    obtain ⟨ht, h⟩ := need_eq h
    obtain ⟨z, hz, h⟩ := ob_eq h
    obtain ⟨ps, hps, h⟩ := ob_eq h
    obtain ⟨r, hr, h⟩ := ob_eq h
    rw [sList_eq] at h
    injection h with h
    subst h
    obtain ⟨zv, e1, e2, e3, e4, _⟩ := zeroOf_ok hz p hp
    obtain ⟨k1, k2⟩ := partsV_ok hR _ _ hps
    obtain ⟨f1, f2, _, _⟩ := fillA_ok p hp ps z r hr e3 k2
    refine ⟨?_, f2⟩
    have htl : (parts.map fun (x : Nat × Operand) => (x.1, ρ x.2)).toList = ps.map fun x => (x.1, conc p x.2) := by rw [Array.toList_map]; exact k1
    have hall : ∀ f ∈ fs.toList, (P.underlying f.type).isSome = true := fun f hf => List.all_eq_true.1 ht f hf
    have hpl : (fun i => (fs.toList.map fun f => (f.offset, P.cellsOf f.type)).toArray[i]?) = placeS P fs := by
      funext i
      unfold placeS
      rw [nth_eq, List.getElem?_toArray, List.getElem?_map]
      cases fs.toList[i]? <;> rfl
    simp only [Instr.build, Sem.run_bind, e1, Result.andThen_ok, run_underlying hd, e2]
    rw [Array.mapM_eq_mapM_toList, Sem.run_map, mapM_places fs.toList hall]
    simp only [Result.andThen_ok]
    rw [hpl, htl, f1]
    rfl
  · rename_i n e hd
    obtain ⟨ht, h⟩ := need_eq h
    obtain ⟨z, hz, h⟩ := ob_eq h
    obtain ⟨ps, hps, h⟩ := ob_eq h
    obtain ⟨r, hr, h⟩ := ob_eq h
    rw [sList_eq] at h
    injection h with h
    subst h
    obtain ⟨zv, e1, e2, e3, e4, _⟩ := zeroOf_ok hz p hp
    obtain ⟨k1, k2⟩ := partsV_ok hR _ _ hps
    obtain ⟨f1, f2, _, _⟩ := fillA_ok p hp ps z r hr e3 k2
    refine ⟨?_, f2⟩
    have htl : (parts.map fun (x : Nat × Operand) => (x.1, ρ x.2)).toList = ps.map fun x => (x.1, conc p x.2) := by rw [Array.toList_map]; exact k1
    obtain ⟨d, hd'⟩ := Option.isSome_iff_exists.mp ht
    simp only [Instr.build, Sem.run_bind, e1, Result.andThen_ok, run_underlying hd, e2, run_sizeOf' hd']
    rw [htl, f1]
    rfl
  · cases h

/-! Rows of noughts. -/
def repL {α : Type} (n : Nat) (l : List α) : List α := Nat.rec [] (fun _ ih => appL l ih) n
theorem repL_get {α : Type} (l : List α) : ∀ (n i : Nat), (repL n l)[i]? = if i < n * l.length then l[i % l.length]? else none := by
  intro n
  induction n with
  | zero =>
    intro i
    have : repL 0 l = [] := rfl
    rw [this]; simp
  | succ n ih =>
    intro i
    show (appL l (repL n l))[i]? = _
    rw [appL_eq]
    by_cases h : i < l.length
    · rw [List.getElem?_append_left h, if_pos (by rw [Nat.add_mul]; omega), Nat.mod_eq_of_lt h]
    · rw [List.getElem?_append_right (by omega), ih, Nat.add_mul, Nat.one_mul]
      by_cases h2 : i - l.length < n * l.length
      · rw [if_pos h2, if_pos (by omega)]
        congr 1
        rw [Nat.mod_eq_sub_mod (by omega : i ≥ l.length)]
      · rw [if_neg h2, if_neg (by omega)]
theorem repL_length {α : Type} (l : List α) (n : Nat) : (repL n l).length = n * l.length := by
  induction n with
  | zero =>
    have : repL 0 l = [] := rfl
    rw [this]; simp
  | succ n ih =>
    show (appL l (repL n l)).length = _
    rw [appL_eq, List.length_append, ih, Nat.add_mul]
    omega
theorem repL_mem {α : Type} (l : List α) : ∀ (n : Nat), ∀ v ∈ repL n l, v ∈ l := by
  intro n
  induction n with
  | zero => intro v hv; cases hv
  | succ n ih =>
    intro v hv
    have hv : v ∈ appL l (repL n l) := hv
    rw [appL_eq] at hv
    rcases List.mem_append.1 hv with h | h
    · exact h
    · exact ih v h
theorem zeros_eq (p : Pls) (z : List AV) (n : Nat) (hz : 0 < z.length) : ((Array.range (n * z.length)).map fun i => (concL p z).toArray[i % (concL p z).toArray.size]!) = (concL p (repL n z)).toArray := by
  apply Array.ext_getElem?
  intro i
  have e : (concL p (repL n z)).toArray[i]? = (concL p (repL n z))[i]? := List.getElem?_toArray
  rw [Array.getElem?_map, e, concL_get, repL_get]
  have hs : (concL p z).toArray.size = z.length := by simp [concL_length]
  by_cases h : i < n * z.length
  · rw [if_pos h, Array.getElem?_range, if_pos h, Option.map_some, hs]
    have hm : i % z.length < z.length := Nat.mod_lt _ hz
    have h2 : i % z.length < (concL p z).toArray.size := by rw [hs]; exact hm
    rw [getElem!_pos (concL p z).toArray (i % z.length) h2, List.getElem?_eq_getElem hm]
    simp [concL_eq]
  · rw [if_neg h]
    have : (Array.range (n * z.length))[i]? = none := by rw [Array.getElem?_eq_none_iff]; simp; omega
    rw [this]
    rfl

def buildSliceA (P : Program) (t : TypeId) (len : Nat) (parts : Array (Nat × Operand)) (R : Operand → Option AV) (st : St) : Option (AV × St) := match P.underlying t with
  | some (.slice e) => need (P.underlying e).isSome (ob (zeroOf P e) fun z => need (Nat.beq (lenL z) (P.cellsOf e)) (need (Nat.ble 1 (lenL z)) (need (Nat.ble (len * lenL z) 16777216) (ob (partsV R parts) fun ps =>
      ob (fillA (fun i => some (i * P.cellsOf e, P.cellsOf e)) ps (repL len z)) fun r => need (allL isCell r) (memRow r st fun _ c st => sNat (P.cellsOf e) fun k => some (.sl c 0 0 len k, st))))))
  | _ => none
theorem wf_newSl (h : Hp) (c e len k : Nat) (ro : Bool) (vs : Nat) (cs : Option (List AV)) (hk : 0 < k) (hl : len * k ≤ e) : WF (upd h c (.row ro [(e, vs, cs)])) (.sl c 0 0 len k) := ⟨_, e, upd_self _ _ _, rfl, hk, by omega⟩
theorem buildSliceA_ok {P : Program} {t : TypeId} {len : Nat} {parts : Array (Nat × Operand)} {R : Operand → Option AV} {st st' : St} {v : AV} (h : buildSliceA P t len parts R st = some (v, st')) :
    ∃ C, st' = ⟨st.n + 1, st.h.set st.n C⟩ ∧ AlOk P st.n C v (fun ρ _ => do pure (.value (← Instr.buildSlice t len (parts.map fun (i, x) => (i, ρ x))))) R := by
  unfold buildSliceA at h
  split at h
  · rename_i e hd
    obtain ⟨ht, h⟩ := need_eq h
    obtain ⟨z, hz, h⟩ := ob_eq h
    obtain ⟨hl, h⟩ := need_eq h
    obtain ⟨h1, h⟩ := need_eq h
    obtain ⟨h24, h⟩ := need_eq h
    obtain ⟨ps, hps, h⟩ := ob_eq h
    obtain ⟨r, hr, h⟩ := ob_eq h
    obtain ⟨hcell, h⟩ := need_eq h
    rw [memRow_eq, sNat_eq] at h
    injection h with h
    injection h with e1 e2
    subst e1 e2
    have hl := Nat.eq_of_beq_eq_true hl
    have h1 := Nat.le_of_ble_eq_true h1
    have h24 := Nat.le_of_ble_eq_true h24
    rw [lenL_eq] at hl h1 h24
    rw [allL_eq, List.all_eq_true] at hcell
    obtain ⟨d, hd'⟩ := Option.isSome_iff_exists.mp ht
    refine ⟨_, rfl, fun g hg hw => ?_⟩
    have hwf : WFL g r ∧ r.length = len * z.length := by
      obtain ⟨_, _, _, e3, _⟩ := zeroOf_ok hz (fun _ _ => none) g
      obtain ⟨_, f2, f3, _⟩ := fillA_ok (fun _ _ => none) g ps _ r hr (WFL.sub e3 (repL_mem z len)) (parts_wf hw _ _ hps)
      exact ⟨f2, by rw [f3, repL_length]⟩
    obtain ⟨hrw, hrl⟩ := hwf
    refine ⟨wf_newSl _ _ _ _ _ _ _ _ (by omega) (by rw [hrl, hl]; exact Nat.le_refl _), fun w0 p w ρ H hR => ?_⟩
    obtain ⟨zv, z1, z2, z3, z4, _⟩ := zeroOf_ok hz p g
    obtain ⟨k1, k2⟩ := partsV_ok hR _ _ hps
    obtain ⟨f1, f2, f3, _⟩ := fillA_ok p g ps _ r hr (WFL.sub z3 (repL_mem z len)) k2
    have hs := H.newRow hg r (concL p r).toArray e hrw hcell (by rw [concL_sz]; exact Nat.le_refl _) (rowHolds r)
    refine ⟨_, _, ?_, hs⟩
    have htl : (parts.map fun (x : Nat × Operand) => (x.1, ρ x.2)).toList = ps.map fun x => (x.1, conc p x.2) := by rw [Array.toList_map]; exact k1
    have h24' : ¬ (len * P.cellsOf e > 2 ^ 24) := by rw [← hl]; omega
    have hcap : len * z.length / z.length = len := Nat.mul_div_cancel _ (by omega)
    have hfin : conc (plNew p st.n w.heap.size (concL p r).toArray.size) (.sl st.n 0 0 len (P.cellsOf e)) = .slice (some ⟨w.heap.size, 0, none⟩) len len := by
      simp only [conc, plNew_self]
      rw [← hl, concL_sz, hrl, Nat.sub_zero, hcap]
    rw [hfin]
    simp only [Instr.buildSlice, Sem.run_bind, run_underlying hd, Result.andThen_ok, run_sizeOf' hd', if_neg h24']
    by_cases h0 : len * P.cellsOf e = 0
    · have hlen0 : len = 0 := by
        rcases Nat.mul_eq_zero.1 h0 with h | h
        · exact h
        · omega
      subst hlen0
      have hrep : repL 0 z = ([] : List AV) := rfl
      rw [hrep] at f1
      have e0 : (concL p ([] : List AV)).toArray = #[] := rfl
      rw [e0] at f1
      simp only [h0, if_true, Sem.run_bind, Sem.run_pure, Result.andThen_ok, htl, Array.range_zero', Array.map_empty, f1, newRow, run_newObj, World.alloc_eq]
    · simp only [h0, if_false, Sem.run_bind, z1, Result.andThen_ok, Sem.run_pure, htl, z2]
      rw [← hl, zeros_eq p z len (by omega)]
      rw [← hl] at f1
      rw [f1]
      simp only [newRow, Sem.run_bind, run_newObj, Result.andThen_ok, Sem.run_pure, World.alloc_eq]
  · cases h

def makeSliceA (P : Program) (t : TypeId) (x y : AV) (st : St) : Option (AV × St) := match P.underlying t with
  | some (.slice e) => (match x with
    | .int _ a => (match y with
      | .int _ b => ob (toN a) fun a => ob (toN b) fun b => need (P.underlying e).isSome (ob (zeroOf P e) fun z => need (Nat.beq (lenL z) (P.cellsOf e)) (need (Nat.ble 1 (lenL z)) (need (Nat.ble a b) (need (Nat.ble b 1000000)
          (need (Nat.ble (P.bytesOf e) 1000000) (memRow (repL b z) st fun _ c st => sNat (P.cellsOf e) fun k => some (.sl c 0 0 a k, st)))))))
      | _ => none)
    | _ => none)
  | _ => none
theorem makeSliceA_ok {P : Program} {t : TypeId} {R : Operand → Option AV} {st st' : St} {x y v : AV} {X Y : Operand} (h : makeSliceA P t x y st = some (v, st')) (hX : R X = some x) (hY : R Y = some y) :
    ∃ C, st' = ⟨st.n + 1, st.h.set st.n C⟩ ∧ AlOk P st.n C v (fun ρ _ => do pure (.value (← Instr.makeSlice t (ρ X) (ρ Y)))) R := by
  unfold makeSliceA at h
  split at h
  · rename_i e hd
    split at h
    · rename_i k1 a
      split at h
      · rename_i k2 b
        obtain ⟨na, ha, h⟩ := ob_eq h
        obtain ⟨nb, hb, h⟩ := ob_eq h
        obtain ⟨ht, h⟩ := need_eq h
        obtain ⟨z, hz, h⟩ := ob_eq h
        obtain ⟨hl, h⟩ := need_eq h
        obtain ⟨h1, h⟩ := need_eq h
        obtain ⟨hab, h⟩ := need_eq h
        obtain ⟨hm, h⟩ := need_eq h
        obtain ⟨hby, h⟩ := need_eq h
        rw [memRow_eq, sNat_eq] at h
        injection h with h
        injection h with e1 e2
        subst e1 e2
        have ha := toN_eq ha
        have hb := toN_eq hb
        subst ha hb
        have hl := Nat.eq_of_beq_eq_true hl
        have h1 := Nat.le_of_ble_eq_true h1
        have hab := Nat.le_of_ble_eq_true hab
        have hm := Nat.le_of_ble_eq_true hm
        have hby := Nat.le_of_ble_eq_true hby
        rw [lenL_eq] at hl h1
        obtain ⟨d, hd'⟩ := Option.isSome_iff_exists.mp ht
        refine ⟨_, rfl, fun g hg hw => ⟨?_, fun w0 p w ρ H hR => ?_⟩⟩
        · exact wf_newSl _ _ _ _ _ _ _ _ (by omega) (by rw [repL_length, ← hl]; exact Nat.mul_le_mul_right _ hab)
        · obtain ⟨zv, z1, z2, z3, z4, i, hi, hiz⟩ := zeroOf_ok hz p g
          have hs := H.newRow hg (repL nb z) (concL p (repL nb z)).toArray e (WFL.sub z3 (repL_mem z nb)) (fun v hv => z4 v (repL_mem z nb v hv)) (by rw [concL_sz]; exact Nat.le_refl _) (rowHolds _)
          refine ⟨_, _, ?_, hs⟩
          have hcap : nb * z.length / z.length = nb := Nat.mul_div_cancel _ (by omega)
          have hfin : conc (plNew p st.n w.heap.size (concL p (repL nb z)).toArray.size) (.sl st.n 0 0 na (P.cellsOf e)) = .slice (some ⟨w.heap.size, 0, none⟩) na nb := by
            simp only [conc, plNew_self]
            rw [← hl, concL_sz, repL_length, Nat.sub_zero, hcap]
          rw [hfin]
          have hbi : i.bytes = P.bytesOf e := by simp [Program.bytesOf, hi]
          have w1 : IntKind.i64.wrap (na : Int) = na := IntWalk.i64_in _ (by omega)
          have w2 : IntKind.i64.wrap (nb : Int) = nb := IntWalk.i64_in _ (by omega)
          have hprod : P.bytesOf e * nb ≤ 1000000 * 1000000 := Nat.mul_le_mul hby hm
          have t1 : ¬ ((i.bytes : Int) * (nb : Int) > 2 ^ 48) := by
            rw [hbi]
            have : ((P.bytesOf e : Int) * (nb : Int)) = ((P.bytesOf e * nb : Nat) : Int) := by simp
            rw [this]
            omega
          have c1 : (((decide ((nb : Int) < 0) || decide ((i.bytes : Int) * (nb : Int) > 2 ^ 48)) = true ∨ (na : Int) < 0) ∨ (na : Int) > nb) = False := by
            simp only [Bool.or_eq_true, decide_eq_true_eq, eq_iff_iff, iff_false]
            omega
          dsimp only
          rw [(hR X _ hX).1, (hR Y _ hY).1]
          simp only [Instr.makeSlice, Sem.run_bind, run_underlying hd, Result.andThen_ok, asInt, asIntOf, conc, Sem.run_pure, typeInfo, run_program, hi, w1, w2, Sem.run_ite, c1, if_false, run_askRoom, Int.toNat_natCast, run_sizeOf' hd', Bool.or_eq_true, decide_eq_true_eq, Result.andThen_ite]
          have c2 : (((nb : Int) < 0 ∨ (i.bytes : Int) * (nb : Int) > 2 ^ 48) ∨ (na : Int) < 0) ∨ (na : Int) > nb ↔ False := by
            constructor
            · omega
            · exact False.elim
          rw [if_neg (by rw [c2]; exact id)]
          by_cases h0 : nb * P.cellsOf e = 0
          · have hn0 : nb = 0 := by
              rcases Nat.mul_eq_zero.1 h0 with h | h
              · exact h
              · omega
            subst hn0
            simp only [h0, if_true, Sem.run_pure, Result.andThen_ok, newRow, Sem.run_bind, run_newObj, World.alloc_eq, Array.range_zero']
            simp [concL, repL]
          · simp only [h0, if_false, Sem.run_bind, z1, Result.andThen_ok, Sem.run_pure, z2, newRow, run_newObj, World.alloc_eq]
            rw [← hl, zeros_eq p z nb (by omega)]
      · cases h
    · cases h
  · cases h

end
end Go.Proofs.Ytmjnbdkjekdkgaa
