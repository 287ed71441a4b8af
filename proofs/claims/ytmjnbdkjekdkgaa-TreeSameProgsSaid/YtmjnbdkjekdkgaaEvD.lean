/-
  A reckoner for closed calls: operations that leave memory alone.
-/
import Derived.Test.YtmjnbdkjekdkgaaEvC
namespace Go.Proofs.Ytmjnbdkjekdkgaa
open Go
set_option linter.unusedVariables false
set_option linter.unusedSimpArgs false

noncomputable section

theorem concL_length (p : Pls) (l : List AV) : (concL p l).length = l.length := by rw [concL_eq, List.length_map]
theorem concL_get (p : Pls) (l : List AV) (i : Nat) : (concL p l)[i]? = (l[i]?).map (conc p) := by rw [concL_eq, List.getElem?_map]
theorem concL_drop (p : Pls) (l : List AV) (n : Nat) : concL p (l.drop n) = (concL p l).drop n := by rw [concL_eq, concL_eq, List.map_drop]
theorem concL_take (p : Pls) (l : List AV) (n : Nat) : concL p (l.take n) = (concL p l).take n := by rw [concL_eq, concL_eq, List.map_take]
theorem WFL.sub {h : Hp} {l r : List AV} (hl : WFL h l) (hs : ∀ v ∈ r, v ∈ l) : WFL h r := (WFL_iff h r).2 fun v hv => (WFL_iff h l).1 hl v (hs v hv)
theorem WFL.get {h : Hp} {l : List AV} (hl : WFL h l) {i : Nat} {v : AV} (hi : l[i]? = some v) : WF h v := (WFL_iff h l).1 hl v (List.mem_of_getElem? hi)

def un1 (op : UnOp) (x : AV) : Option AV := match op with
  | .not => (match x with | .bool b => some (.bool !b) | _ => none)
  | .neg => (match x with | .int k n => sInt (wrapF k (0 - n)) fun z => some (.int k z) | _ => none)
  | _ => none
theorem un1_ok {P : Program} {op : UnOp} {x v : AV} (h : un1 op x = some v) (p : Pls) (hp : Hp) (w : World) : (Op.unary op (conc p x)).run P w = .ok (conc p v) w ∧ WF hp v := by
  unfold un1 at h
  split at h
  · split at h
    · injection h with h; subst h; exact ⟨rfl, trivial⟩
    · cases h
  · split at h
    · rw [sInt_eq] at h
      injection h with h; subst h
      exact ⟨by simp [conc, Op.unary, Op.intArith, wrapF_eq], trivial⟩
    · cases h
  · cases h

def conv (P : Program) (s d : TypeId) (x : AV) : Option AV := match x with
  | .int k n => (match P.underlying d with
    | some (.int k') => need (P.underlying s).isSome (sInt (wrapF k' n) fun z => some (.int k' z))
    | _ => none)
  | .str l => (match P.underlying d with
    | some .string => (match P.underlying s with
      | some .string => some (.str l)
      | _ => none)
    | _ => none)
  | _ => none
theorem conv_ok {P : Program} {s d : TypeId} {x v : AV} (h : conv P s d x = some v) (p : Pls) (hp : Hp) (hx : WF hp x) (w : World) : (convert s d (conc p x)).run P w = .ok (conc p v) w ∧ WF hp v := by
  unfold conv at h
  split at h
  · split at h
    · rename_i k' hd
      obtain ⟨hs, h⟩ := need_eq h
      rw [sInt_eq] at h
      injection h with h; subst h
      obtain ⟨e, he⟩ := Option.isSome_iff_exists.mp hs
      refine ⟨?_, trivial⟩
      simp only [convert, Sem.run_bind, run_underlying he, run_underlying hd, Result.andThen_ok, conc, Conv.intToInt, Sem.run_pure, wrapF_eq]
    · cases h
  · split at h
    · rename_i hd
      split at h
      · rename_i hs
        injection h with h; subst h
        refine ⟨?_, hx⟩
        simp only [convert, Sem.run_bind, run_underlying hs, run_underlying hd, Result.andThen_ok, conc, Sem.run_pure]
      · cases h
    · cases h
  · cases h

/-- A part of a struct or an array. -/
def partA (P : Program) (t : TypeId) (l : List AV) (off : Nat) : Option AV := match tk P t with
  | .agg n => takeK n (dropN off l) fun r => some (.agg r)
  | .one => nth l off
  | .bad => none
theorem partA_ok {P : Program} {t : TypeId} {l : List AV} {off : Nat} {v : AV} (h : partA P t l off = some v) (p : Pls) (hp : Hp) (hl : WFL hp l) (w : World) :
    (part t (concL p l).toArray off).run P w = .ok (conc p v) w ∧ WF hp v := by
  unfold partA at h
  split at h
  · rename_i n hk
    obtain ⟨h1, h2⟩ := tk_agg hk w
    obtain ⟨h3, h4⟩ := takeK_eq _ _ _ _ h
    injection h4 with h4
    subst h4
    rw [dropN_eq] at h3 ⊢
    refine ⟨?_, ?_⟩
    · simp only [part, Sem.run_bind, h1, h2, Result.andThen_ok, if_true, Sem.run_pure]
      rw [conc, concL_take, concL_drop]
      simp [List.extract]
    · exact WFL.sub hl fun v hv => List.mem_of_mem_drop (List.mem_of_mem_take hv)
  · rename_i hk
    obtain ⟨h1, _⟩ := tk_one hk w
    rw [nth_eq] at h
    refine ⟨?_, hl.get h⟩
    have : (concL p l).toArray[off]? = some (conc p v) := by rw [List.getElem?_toArray, concL_get, h]; rfl
    simp [part, h1, this]
  · cases h

def fieldOf (P : Program) (t : TypeId) (f : Nat) : Option Field := match P.underlying t with
  | some (.struct fs) => nth fs.toList f
  | _ => none
theorem fieldOf_ok {P : Program} {t : TypeId} {f : Nat} {fd : Field} (h : fieldOf P t f = some fd) : ∃ fs, P.underlying t = some (.struct fs) ∧ fs[f]? = some fd := by
  unfold fieldOf at h
  split at h
  · rename_i fs hd
    rw [nth_eq, Array.getElem?_toList] at h
    exact ⟨fs, hd, h⟩
  · cases h
def fieldA (P : Program) (t : TypeId) (x : AV) (f : Nat) : Option AV := match x with
  | .agg l => ob (fieldOf P t f) fun fd => partA P fd.type l fd.offset
  | _ => none
theorem fieldA_ok {P : Program} {t : TypeId} {f : Nat} {x v : AV} (h : fieldA P t x f = some v) (p : Pls) (hp : Hp) (hx : WF hp x) (w : World) :
    (Instr.field t (conc p x) f).run P w = .ok (conc p v) w ∧ WF hp v := by
  unfold fieldA at h
  split at h
  · rename_i l
    obtain ⟨fd, hf, h⟩ := ob_eq h
    obtain ⟨fs, hd, hg⟩ := fieldOf_ok hf
    obtain ⟨h1, h2⟩ := partA_ok h p hp hx w
    refine ⟨?_, h2⟩
    simp only [Instr.field, Sem.run_bind, run_underlying hd, Result.andThen_ok, hg, conc, asAgg, Sem.run_pure, h1]
  · cases h
/-- Where a field that has cells lies. -/
def fieldOff (P : Program) (t : TypeId) (f : Nat) : Option Nat := ob (fieldOf P t f) fun fd => need (P.underlying fd.type).isSome (bif' (Nat.beq (P.cellsOf fd.type) 0) none (some fd.offset))
def fieldAddrA (P : Program) (t : TypeId) (x : AV) (f : Nat) : Option AV := match x with
  | .ptr c m off => ob (fieldOff P t f) fun o => sNat (off + o) fun z => some (.ptr c m z)
  | _ => none
theorem fieldAddrA_ok {P : Program} {t : TypeId} {f : Nat} {x v : AV} (h : fieldAddrA P t x f = some v) {p : Pls} {hp : Hp} (hc : Cov p hp) (hx : WF hp x) (w : World) :
    (Instr.fieldAt t (conc p x) f).run P w = .ok (conc p v) w ∧ WF hp v := by
  unfold fieldAddrA at h
  split at h
  · rename_i c m off
    obtain ⟨o, ho, h⟩ := ob_eq h
    unfold fieldOff at ho
    obtain ⟨fd, hf, ho⟩ := ob_eq ho
    obtain ⟨hs, ho⟩ := need_eq ho
    obtain ⟨hz, ho⟩ := bif_none ho
    injection ho with ho
    subst ho
    rw [sNat_eq] at h
    injection h with h
    subst h
    obtain ⟨fs, hd, hg⟩ := fieldOf_ok hf
    obtain ⟨e, he⟩ := Option.isSome_iff_exists.mp hs
    obtain ⟨q, hq, e1⟩ := conc_ptr hc hx
    have hz' : P.cellsOf fd.type ≠ 0 := fun e => by rw [e] at hz; exact absurd hz (by decide)
    refine ⟨?_, hx⟩
    rw [e1]
    simp only [Instr.fieldAt, Sem.run_bind, run_underlying hd, Result.andThen_ok, hg, Instr.sureAddr, Sem.run_pure, fieldPlace, run_sizeOf' he, if_neg hz', Sem.run_ite]
    rw [add_zero_off]
    simp only [conc, hq, Nat.add_assoc, Result.andThen_ok]
  · cases h

def elemOfA (P : Program) (t : TypeId) : Option Nat := match P.underlying t with
  | some (.slice e) => need (P.underlying e).isSome (some (P.cellsOf e))
  | _ => none
theorem elemOfA_ok {P : Program} {t : TypeId} {n : Nat} (h : elemOfA P t = some n) : ∃ e, P.underlying t = some (.slice e) ∧ (P.underlying e).isSome = true ∧ n = P.cellsOf e := by
  unfold elemOfA at h
  split at h
  · rename_i e hd
    obtain ⟨hs, h⟩ := need_eq h
    injection h with h
    exact ⟨e, hd, hs, h.symm⟩
  · cases h
def arrOfA (P : Program) (t : TypeId) : Option (Nat × TypeId) := match P.underlying t with
  | some (.array n e) => need (P.underlying e).isSome (some (n, e))
  | _ => none
theorem arrOfA_ok {P : Program} {t : TypeId} {q : Nat × TypeId} (h : arrOfA P t = some q) : P.underlying t = some (.array q.1 q.2) ∧ (P.underlying q.2).isSome = true := by
  unfold arrOfA at h
  split at h
  · rename_i n e hd
    obtain ⟨hs, h⟩ := need_eq h
    injection h with h
    subst h
    exact ⟨hd, hs⟩
  · cases h
def indexAddrA (P : Program) (t : TypeId) (x i : AV) : Option AV := match x with
  | .sl c m off len esz => (match i with
    | .int k i => ob (toN i) fun i => need (Nat.ble (i + 1) len) (ob (elemOfA P t) fun z => sNat (off + i * z) fun o => some (.ptr c m o))
    | _ => none)
  | .ptr c m off => (match i with
    | .int k i => ob (toN i) fun i => ob (arrOfA P t) fun q => need (Nat.ble (i + 1) q.1) (sNat (off + i * P.cellsOf q.2) fun o => some (.ptr c m o))
    | _ => none)
  | _ => none
theorem indexAddrA_ok {P : Program} {t : TypeId} {x i v : AV} (h : indexAddrA P t x i = some v) {p : Pls} {hp : Hp} (hc : Cov p hp) (hx : WF hp x) (w : World) :
    (Instr.indexAt t (conc p x) (conc p i)).run P w = .ok (conc p v) w ∧ WF hp v := by
  unfold indexAddrA at h
  split at h
  · rename_i c m off len esz
    split at h
    · rename_i k i
      obtain ⟨n, hn, h⟩ := ob_eq h
      obtain ⟨hb, h⟩ := need_eq h
      obtain ⟨z, hz, h⟩ := ob_eq h
      rw [sNat_eq] at h
      injection h with h
      subst h
      have hi := toN_eq hn
      subst hi
      have hlt := Nat.le_of_ble_eq_true hb
      obtain ⟨e, hd, hs, rfl⟩ := elemOfA_ok hz
      obtain ⟨d, he⟩ := Option.isSome_iff_exists.mp hs
      obtain ⟨q, hq, e1⟩ := conc_sl hc hx
      obtain ⟨C, ex, h1, h2, _⟩ := hx
      have hel : P.elem t = e := by simp [Program.elem, hd]
      have hd' : P.underlying t = some (.slice (P.elem t)) := by rw [hel]; exact hd
      refine ⟨?_, C, h1, (List.getElem?_eq_some_iff.1 h2).1⟩
      rw [e1, conc, run_indexAt_slice w t _ _ _ _ _ hd', if_pos ⟨by omega, by omega⟩, hel, run_sizeOf' he]
      simp only [Result.andThen_ok, Int.toNat_natCast]
      rw [add_zero_off]
      simp only [conc, hq, Nat.add_assoc]
    · cases h
  · rename_i c m off
    split at h
    · rename_i k i
      obtain ⟨n, hn, h⟩ := ob_eq h
      obtain ⟨⟨len, e⟩, hz, h⟩ := ob_eq h
      obtain ⟨hb, h⟩ := need_eq h
      rw [sNat_eq] at h
      injection h with h
      subst h
      have hi := toN_eq hn
      subst hi
      have hlt := Nat.le_of_ble_eq_true hb
      obtain ⟨hd, hs⟩ := arrOfA_ok hz
      simp only at hd hs hlt
      obtain ⟨d, he⟩ := Option.isSome_iff_exists.mp hs
      obtain ⟨q, hq, e1⟩ := conc_ptr hc hx
      have hel : P.elem t = e := by simp [Program.elem, hd]
      have hal : P.arrayLen t = len := by simp [Program.arrayLen, hd]
      have hd' : P.underlying t = some (.array (P.arrayLen t) (P.elem t)) := by rw [hel, hal]; exact hd
      refine ⟨?_, hx⟩
      rw [e1, conc, run_indexAt_array w t _ _ _ hd', if_pos ⟨by omega, by omega⟩, hel, run_sizeOf' he]
      simp only [Result.andThen_ok, Int.toNat_natCast]
      rw [add_zero_off]
      simp only [conc, hq, Nat.add_assoc]
    · cases h
  · cases h

def indexA (P : Program) (t : TypeId) (x i : AV) : Option AV := match x with
  | .str l => (match i with
    | .int k i => (match P.underlying t with
      | some .string => ob (toN i) fun i => ob (nth l i) fun b => some (.int .u8 (Int.ofNat b))
      | _ => none)
    | _ => none)
  | .agg l => (match i with
    | .int k i => ob (arrOfA P t) fun q => ob (toN i) fun i => need (Nat.ble (i + 1) q.1) (partA P q.2 l (i * P.cellsOf q.2))
    | _ => none)
  | _ => none
theorem get_bytesOf {l : List Nat} (hl : Bytes l) (i : Nat) : (bytesOf l)[i]? = (l[i]?).map UInt8.ofNat := by
  have h1 : (bytesOf l).size = l.length := size_bytesOf l
  by_cases hi : i < l.length
  · rw [List.getElem?_eq_getElem hi, getElem?_pos (bytesOf l) i (by rw [h1]; exact hi)]
    show some ((bytesOf l).data[i]'_) = _
    simp [bytesOf]
  · rw [List.getElem?_eq_none (by omega), getElem?_neg (bytesOf l) i (by rw [h1]; exact hi)]
    rfl
theorem indexA_ok {P : Program} {t : TypeId} {x i v : AV} (h : indexA P t x i = some v) (p : Pls) (hp : Hp) (hx : WF hp x) (w : World) :
    (Instr.index t (conc p x) (conc p i)).run P w = .ok (conc p v) w ∧ WF hp v := by
  unfold indexA at h
  split at h
  · rename_i l
    split at h
    · rename_i k i
      split at h
      · rename_i hd
        obtain ⟨n, hn, h⟩ := ob_eq h
        obtain ⟨b, hb, h⟩ := ob_eq h
        injection h with h
        subst h
        have hi := toN_eq hn
        subst hi
        rw [nth_eq] at hb
        have hbl : b < 256 := hx b (List.mem_of_getElem? hb)
        have hg := get_bytesOf hx n
        rw [hb] at hg
        refine ⟨?_, trivial⟩
        have h0 : (0 : Int) ≤ n := by omega
        simp only [Instr.index, conc, asIntOf, Sem.run_bind, Sem.run_pure, Result.andThen_ok, run_underlying hd, if_pos h0, Int.toNat_natCast, hg, Option.map_some]
        congr 2
        simp
        omega
      · cases h
    · cases h
  · rename_i l
    split at h
    · rename_i k i
      replace h := ob_eq h
      obtain ⟨⟨len, e⟩, hz, h⟩ := h
      replace h := ob_eq h
      obtain ⟨n, hn, h⟩ := h
      replace h := need_eq h
      obtain ⟨hb, h⟩ := h
      replace hn := toN_eq hn
      subst hn
      have hlt := Nat.le_of_ble_eq_true hb
      obtain ⟨hd, hs⟩ := arrOfA_ok hz
      simp only at hd hs hlt h
      obtain ⟨d, he⟩ := Option.isSome_iff_exists.mp hs
      obtain ⟨k1, k2⟩ := partA_ok h p hp hx w
      refine ⟨?_, k2⟩
      have h0 : (0 : Int) ≤ n ∧ (n : Int) < len := ⟨by omega, by omega⟩
      simp only [Instr.index, conc, asIntOf, Sem.run_bind, Sem.run_pure, Result.andThen_ok, run_underlying hd, if_pos h0, Int.toNat_natCast, run_sizeOf' he]
      exact k1
    · cases h
  · cases h

/-! Slices of texts and of rows. -/
def boundLo (R : Operand → Option AV) (o : Option Operand) : Option Nat := match o with
  | none => some 0
  | some x => ob (R x) fun v => match v with
    | .int _ i => toN i
    | _ => none
def boundHi (R : Operand → Option AV) (o : Option Operand) (n : Nat) : Option Nat := match o with
  | none => some n
  | some x => ob (R x) fun v => match v with
    | .int _ i => toN i
    | _ => none
def sliceA (P : Program) (t : TypeId) (x : AV) (R : Operand → Option AV) (lo hi : Option Operand) : Option AV := match x with
  | .str l => (match P.underlying t with
    | some .string => sNat (lenL l) fun n => ob (boundLo R lo) fun a => ob (boundHi R hi n) fun b => need (Nat.ble a b) (need (Nat.ble b n) (takeK (b - a) (dropN a l) fun r => some (.str r)))
    | _ => none)
  | .sl c m off len esz => ob (elemOfA P t) fun z => need (Nat.beq z esz) (ob (boundLo R lo) fun a => ob (boundHi R hi len) fun b => need (Nat.ble a b) (need (Nat.ble b len)
      (bif' (bif' (Nat.beq a 0) true (Nat.ble (a + 1) len)) (sNat (off + a * esz) fun o => sNat (b - a) fun k => some (.sl c m o k esz)) (some (.slz c m off a esz)))))
  | .nils => ob (elemOfA P t) fun z => ob (boundLo R lo) fun a => ob (boundHi R hi 0) fun b => need (Nat.beq a 0) (need (Nat.beq b 0) (some .nils))
  | _ => none
theorem bytesOf_extract (l : List Nat) (a b : Nat) : (bytesOf l).extract a b = bytesOf ((l.drop a).take (b - a)) := by
  apply ByteArray.ext
  rw [ByteArray.data_extract]
  apply Array.ext'
  simp [bytesOf, List.extract, List.map_take, List.map_drop]
/-- What the operands of a slice say. -/
def RFit (R : Operand → Option AV) (ρ : Operand → Value) (p : Pls) (h : Hp) : Prop := ∀ x v, R x = some v → ρ x = conc p v ∧ WF h v
theorem bounds_ok {P : Program} {R : Operand → Option AV} {ρ : Operand → Value} {p : Pls} {hp : Hp} (hR : RFit R ρ p hp) {lo hi : Option Operand} {n a b cap : Nat}
    (ha : boundLo R lo = some a) (hb : boundHi R hi n = some b) (hab : a ≤ b) (hbn : b ≤ n) (hnc : n ≤ cap) (isSlice : Bool) (w : World) :
    (Instr.sliceBounds isSlice n cap (lo.map ρ) (hi.map ρ) none).run P w = .ok (a, b, cap) w := by
  have hl : ∀ (code : BoundsCode), (∃ x k, lo = some x ∧ ρ x = .int k a) ∨ (lo = none ∧ a = 0) := fun _ => by
    unfold boundLo at ha
    split at ha
    · injection ha with ha; exact .inr ⟨rfl, ha.symm⟩
    · rename_i x
      obtain ⟨v, hv, ha⟩ := ob_eq ha
      split at ha
      · rename_i k i
        have := toN_eq ha
        subst this
        exact .inl ⟨x, k, rfl, (hR x _ hv).1⟩
      · cases ha
  have hh : (∃ x k, hi = some x ∧ ρ x = .int k b) ∨ (hi = none ∧ b = n) := by
    unfold boundHi at hb
    split at hb
    · injection hb with hb; exact .inr ⟨rfl, hb.symm⟩
    · rename_i x
      obtain ⟨v, hv, hb⟩ := ob_eq hb
      split at hb
      · rename_i k i
        have := toN_eq hb
        subst this
        exact .inl ⟨x, k, rfl, (hR x _ hv).1⟩
      · cases hb
  have q1 : ∀ (k : IntKind) (code : BoundsCode), (Instr.sliceBound (.int k (b : Int)) cap code).run P w = .ok b w := fun k code => by
    rw [run_sliceBound w k b cap code (by omega) (by omega)]; rfl
  have q2 : ∀ (k : IntKind) (code : BoundsCode), (Instr.sliceBound (.int k (a : Int)) b code).run P w = .ok a w := fun k code => by
    rw [run_sliceBound w k a b code (by omega) (by omega)]; rfl
  rcases hl .index with ⟨x, k, rfl, e1⟩ | ⟨rfl, rfl⟩ <;> rcases hh with ⟨y, k', rfl, e2⟩ | ⟨rfl, rfl⟩
  · simp only [Instr.sliceBounds, Option.map_some, e1, e2, Sem.run_bind, Sem.run_pure, Result.andThen_ok, q1, q2]
  · simp only [Instr.sliceBounds, Option.map_some, Option.map_none, e1, Sem.run_bind, Sem.run_pure, Result.andThen_ok, q1, q2]
  · simp only [Instr.sliceBounds, Option.map_some, Option.map_none, e2, Sem.run_bind, Sem.run_pure, Result.andThen_ok, q1, q2]
  · simp only [Instr.sliceBounds, Option.map_none, Sem.run_bind, Sem.run_pure, Result.andThen_ok]
theorem div_part (e off a z : Nat) (hz : 0 < z) : (e - off) / z - a = (e - (off + a * z)) / z := by
  rw [Nat.sub_add_eq, Nat.mul_comm a z, Nat.sub_mul_div]
theorem sliceA_ok {P : Program} {t : TypeId} {x v : AV} {R : Operand → Option AV} {lo hi : Option Operand} (h : sliceA P t x R lo hi = some v) {ρ : Operand → Value} {p : Pls} {hp : Hp} (hc : Cov p hp)
    (hle : ∀ c m C e, hp c = some C → (exts C)[m]? = some e → ∃ q, p c m = some q ∧ e ≤ q.e) (hR : RFit R ρ p hp) (hx : WF hp x) (w : World) :
    (Instr.sliceAt t (conc p x) (lo.map ρ) (hi.map ρ) none).run P w = .ok (conc p v) w ∧ WF hp v := by
  unfold sliceA at h
  split at h
  · rename_i l
    split at h
    · rename_i hd
      rw [sNat_eq, lenL_eq] at h
      obtain ⟨a, ha, h⟩ := ob_eq h
      obtain ⟨b, hb, h⟩ := ob_eq h
      obtain ⟨h1, h⟩ := need_eq h
      obtain ⟨h2, h⟩ := need_eq h
      obtain ⟨h3, h4⟩ := takeK_eq _ _ _ _ h
      injection h4 with h4
      subst h4
      have h1 := Nat.le_of_ble_eq_true h1
      have h2 := Nat.le_of_ble_eq_true h2
      have hbd := bounds_ok (P := P) hR ha hb h1 h2 (Nat.le_refl _) false w
      refine ⟨?_, ?_⟩
      · rw [run_sliceAt_string w t _ _ _ _ hd]
        simp only [Instr.slice, Sem.run_bind, run_underlying hd, Result.andThen_ok, conc, Option.isSome_none, Bool.false_eq_true, if_false, size_bytesOf, hbd, Sem.run_pure, bytesOf_extract, dropN_eq]
      · intro x hx'
        rw [dropN_eq] at hx'
        exact hx x (List.mem_of_mem_drop (List.mem_of_mem_take hx'))
    · cases h
  · rename_i c m off len esz
    obtain ⟨z, hz, h⟩ := ob_eq h
    obtain ⟨h0, h⟩ := need_eq h
    obtain ⟨a, ha, h⟩ := ob_eq h
    obtain ⟨b, hb, h⟩ := ob_eq h
    obtain ⟨h1, h⟩ := need_eq h
    obtain ⟨h2, h⟩ := need_eq h
    replace h0 := Nat.eq_of_beq_eq_true h0
    subst h0
    replace h1 := Nat.le_of_ble_eq_true h1
    replace h2 := Nat.le_of_ble_eq_true h2
    obtain ⟨e, hd, hs, hze⟩ := elemOfA_ok hz
    obtain ⟨d, he⟩ := Option.isSome_iff_exists.mp hs
    obtain ⟨q, hq, e1⟩ := conc_sl hc hx
    obtain ⟨C, ex, k1, k2, k3, k4⟩ := hx
    obtain ⟨q', hq', hle'⟩ := hle c m C ex k1 k2
    rw [hq] at hq'
    injection hq' with hq'
    subst hq'
    have hcap : len ≤ (q.e - off) / z := (Nat.le_div_iff_mul_le k3).2 (by omega)
    have hbd := bounds_ok (P := P) hR ha hb h1 h2 hcap true w
    have hel : P.elem t = e := by simp [Program.elem, hd]
    have hd' : P.underlying t = some (.slice (P.elem t)) := by rw [hel]; exact hd
    cases h3 : bif' (Nat.beq a 0) true (Nat.ble (a + 1) len) with
    | true =>
      replace h : bif' (bif' (Nat.beq a 0) true (Nat.ble (a + 1) len)) (sNat (off + a * z) fun o => sNat (b - a) fun k => some (AV.sl c m o k z)) (some (.slz c m off a z)) = some v := h
      rw [h3, bif_true, sNat_eq, sNat_eq] at h
      injection h with h
      subst h
      refine ⟨?_, C, ex, k1, k2, k3, ?_⟩
      · rw [e1, run_sliceAt_slice w t _ _ _ _ hd', run_slice_any w t _ _ _ hd', hbd, hel, Result.andThen_ok, run_sizeOf' he, Result.andThen_ok, ← hze]
        simp only [sliced]
        have hne : (if (q.e - off) / z = a then some (⟨q.b, q.d + off, none⟩ : Addr) else (some (⟨q.b, q.d + off, none⟩ : Addr)).map (·.add (a * z))) = some ⟨q.b, q.d + (off + a * z), none⟩ := by
          by_cases h0 : a = 0
          · subst h0
            split
            · simp
            · simp [Addr.add]
          · rw [if_neg ?_]
            · rw [Option.map_some, add_zero_off, Nat.add_assoc]
            · have hb0 : Nat.beq a 0 = false := beq0 h0
              rw [hb0] at h3
              have := Nat.le_of_ble_eq_true (show Nat.ble (a + 1) len = true from h3)
              omega
        rw [hne, conc, hq]
        simp only [div_part _ _ _ _ k3]
      · have : (a + (b - a)) * z ≤ len * z := Nat.mul_le_mul_right _ (by omega)
        rw [Nat.add_mul] at this
        omega
    | false =>
      replace h : bif' (bif' (Nat.beq a 0) true (Nat.ble (a + 1) len)) (sNat (off + a * z) fun o => sNat (b - a) fun k => some (AV.sl c m o k z)) (some (.slz c m off a z)) = some v := h
      rw [h3, bif_false] at h
      injection h with h
      subst h
      have hab : b = a := by
        cases hb0 : Nat.beq a 0 with
        | true => rw [hb0, bif_true] at h3; cases h3
        | false =>
          rw [hb0, bif_false] at h3
          have : ¬ a + 1 ≤ len := fun hh => by rw [Nat.ble_eq_true_of_le hh] at h3; cases h3
          omega
      subst hab
      refine ⟨?_, C, k1, (List.getElem?_eq_some_iff.1 k2).1⟩
      rw [e1, run_sliceAt_slice w t _ _ _ _ hd', run_slice_any w t _ _ _ hd', hbd, hel, Result.andThen_ok, run_sizeOf' he, Result.andThen_ok, ← hze]
      simp only [sliced, conc, hq]
      split
      · simp
      · rw [Option.map_some, add_zero_off, Nat.add_assoc]
        simp
  · obtain ⟨z, hz, h⟩ := ob_eq h
    obtain ⟨a, ha, h⟩ := ob_eq h
    obtain ⟨b, hb, h⟩ := ob_eq h
    obtain ⟨h1, h⟩ := need_eq h
    obtain ⟨h2, h⟩ := need_eq h
    injection h with h
    subst h
    have h1 := Nat.eq_of_beq_eq_true h1
    have h2 := Nat.eq_of_beq_eq_true h2
    subst h1 h2
    obtain ⟨e, hd, hs, hze⟩ := elemOfA_ok hz
    obtain ⟨d, he⟩ := Option.isSome_iff_exists.mp hs
    have hbd := bounds_ok (P := P) hR ha hb (Nat.le_refl _) (Nat.le_refl _) (Nat.le_refl 0) true w
    have hel : P.elem t = e := by simp [Program.elem, hd]
    have hd' : P.underlying t = some (.slice (P.elem t)) := by rw [hel]; exact hd
    refine ⟨?_, trivial⟩
    have e1 : conc p .nils = .slice none 0 0 := rfl
    rw [e1, run_sliceAt_slice w t _ _ _ _ hd', run_slice_any w t _ _ _ hd', hbd, hel, Result.andThen_ok, run_sizeOf' he, Result.andThen_ok]
    simp [sliced]
  · cases h

end
end Go.Proofs.Ytmjnbdkjekdkgaa
