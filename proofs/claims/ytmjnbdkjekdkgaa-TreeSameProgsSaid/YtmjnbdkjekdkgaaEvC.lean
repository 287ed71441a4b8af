/-
  A reckoner for closed calls: what only reckons with values.
-/
import Derived.Test.YtmjnbdkjekdkgaaEvB
import Derived.Laws.Slices
import Derived.Laws.Unary
import Derived.Laws.StructEq
import Derived.ChangeKeysEq
namespace Go.Proofs.Ytmjnbdkjekdkgaa
open Go
set_option linter.unusedVariables false
set_option linter.unusedSimpArgs false

noncomputable section

/-! Constants. -/
def ofCell (v : Value) : Option AV := match v with
  | .bool b => some (.bool b)
  | .int k n => some (.int k n)
  | .string s => some (.str (textOf s))
  | .pointer none => some .nilp
  | .slice none 0 0 => some .nils
  | .nilFunc => some .nilf
  | .nilIface => some .nili
  | .map none => some .nilm
  | _ => none
def ofConst (v : Value) : Option AV := match v with
  | .agg cs => ob (mapO ofCell cs.toList) fun l => some (.agg l)
  | .tuple cs => ob (mapO ofCell cs.toList) fun l => some (.tup l)
  | .func (.func f) a c => ob (mapO ofCell a.toList) fun l => ob (mapO ofCell c.toList) fun r => some (.fn f l r)
  | v => ofCell v
theorem ofCell_ok (p : Pls) (h : Hp) {v : Value} {a : AV} (e : ofCell v = some a) : conc p a = v ∧ WF h a ∧ isCell a = true := by
  unfold ofCell at e
  split at e <;> first
    | (injection e with e; subst e; exact ⟨rfl, trivial, rfl⟩)
    | (injection e with e; subst e; exact ⟨by rw [conc, bytesOf_textOf], bytes_textOf _, rfl⟩)
    | exact nomatch e
theorem ofCells_ok (p : Pls) (h : Hp) : ∀ (l : List Value) (r : List AV), mapO ofCell l = some r → concL p r = l ∧ WFL h r ∧ ∀ v ∈ r, isCell v = true := by
  intro l
  induction l with
  | nil => intro r e; injection e with e; subst e; exact ⟨rfl, trivial, by simp⟩
  | cons v l ih =>
    intro r e
    rw [mapO_cons] at e
    obtain ⟨b, hb, e⟩ := ob_eq e
    obtain ⟨t, ht, e⟩ := ob_eq e
    injection e with e
    subst e
    obtain ⟨h1, h2, h3⟩ := ih t ht
    obtain ⟨k1, k2, k3⟩ := ofCell_ok p h hb
    refine ⟨by rw [concL, k1, h1], ⟨k2, h2⟩, ?_⟩
    intro x hx
    rcases List.mem_cons.1 hx with rfl | hx
    · exact k3
    · exact h3 x hx
theorem ofConst_ok (p : Pls) (h : Hp) {v : Value} {a : AV} (e : ofConst v = some a) : conc p a = v ∧ WF h a := by
  unfold ofConst at e
  split at e
  · obtain ⟨l, hl, e⟩ := ob_eq e
    injection e with e
    subst e
    obtain ⟨h1, h2, _⟩ := ofCells_ok p h _ _ hl
    exact ⟨by rw [conc, h1], h2⟩
  · obtain ⟨l, hl, e⟩ := ob_eq e
    injection e with e
    subst e
    obtain ⟨h1, h2, _⟩ := ofCells_ok p h _ _ hl
    exact ⟨by rw [conc, h1], h2⟩
  · obtain ⟨l, hl, e⟩ := ob_eq e
    obtain ⟨r, hr, e⟩ := ob_eq e
    injection e with e
    subst e
    obtain ⟨h1, h2, _⟩ := ofCells_ok p h _ _ hl
    obtain ⟨k1, k2, _⟩ := ofCells_ok p h _ _ hr
    exact ⟨by rw [conc, h1, k1], h2, k2⟩
  · obtain ⟨h1, h2, _⟩ := ofCell_ok p h e
    exact ⟨h1, h2⟩

/-! Types. -/
inductive TK where
  | agg (n : Nat)
  | one
  | bad
def tkOf (d : Option TypeDesc) (n : Nat) : TK := match d with
  | some (.struct _) => .agg n
  | some (.array _ _) => .agg n
  | some _ => .one
  | none => .bad
def tk (P : Program) (t : TypeId) : TK := tkOf (P.underlying t) (P.cellsOf t)
theorem info_of_underlying {P : Program} {t : TypeId} {d : TypeDesc} (h : P.underlying t = some d) : ∃ i, P.info? t = some i := by
  unfold Program.underlying at h
  cases hi : P.info? t with
  | none => rw [hi] at h; exact nomatch h
  | some i => exact ⟨i, rfl⟩
theorem run_sizeOf' {P : Program} {t : TypeId} {d : TypeDesc} (h : P.underlying t = some d) (w : World) : (sizeOf t).run P w = .ok (P.cellsOf t) w := by
  obtain ⟨i, hi⟩ := info_of_underlying h
  simp [sizeOf, typeInfo, hi, Program.cellsOf]
theorem tk_agg {P : Program} {t : TypeId} {n : Nat} (h : tk P t = .agg n) (w : World) : (isAgg t).run P w = .ok true w ∧ (sizeOf t).run P w = .ok n w := by
  unfold tk tkOf at h
  split at h
  · rename_i fs hd
    injection h with h
    subst h
    exact ⟨by simp [isAgg, run_underlying hd], run_sizeOf' hd w⟩
  · rename_i k e hd
    injection h with h
    subst h
    exact ⟨by simp [isAgg, run_underlying hd], run_sizeOf' hd w⟩
  · cases h
  · cases h
theorem tk_one {P : Program} {t : TypeId} (h : tk P t = .one) (w : World) : (isAgg t).run P w = .ok false w ∧ (sizeOf t).run P w = .ok (P.cellsOf t) w := by
  unfold tk tkOf at h
  split at h
  · cases h
  · cases h
  · rename_i d h1 h2 hd
    refine ⟨?_, run_sizeOf' hd w⟩
    cases d <;> first | (simp [isAgg, run_underlying hd]; done) | (simp_all; done)
  · cases h

/-! Two operands. -/
def b2i (op : BinOp) (k : IntKind) (a b : Int) : Option AV := match op with
  | .add => sInt (wrapF k (a + b)) fun z => some (.int k z)
  | .sub => sInt (wrapF k (a - b)) fun z => some (.int k z)
  | .mul => sInt (wrapF k (a * b)) fun z => some (.int k z)
  | .quo => bif' (eqI b 0) none (sInt (wrapF k (a.tdiv b)) fun z => some (.int k z))
  | .rem => bif' (eqI b 0) none (sInt (a.tmod b) fun z => some (.int k z))
  | .eql => some (.bool (eqI a b))
  | .neq => some (.bool (!eqI a b))
  | .lss => some (.bool (ltI a b))
  | .leq => some (.bool (!ltI b a))
  | .gtr => some (.bool (ltI b a))
  | .geq => some (.bool (!ltI a b))
  | .and => sInt (k.wrap ((BitVec.ofInt k.bits a &&& BitVec.ofInt k.bits b).toNat)) fun z => some (.int k z)
  | .or => sInt (k.wrap ((BitVec.ofInt k.bits a ||| BitVec.ofInt k.bits b).toNat)) fun z => some (.int k z)
  | .xor => sInt (k.wrap ((BitVec.ofInt k.bits a ^^^ BitVec.ofInt k.bits b).toNat)) fun z => some (.int k z)
  | _ => none
/-- The lesser text. -/
def ltT (a : List Nat) : List Nat → Bool := List.rec (fun b => List.rec false (fun _ _ _ => true) b) (fun x _ ih b => List.rec false (fun y t _ => bif' (Nat.ble (Nat.succ x) y) true (bif' (Nat.beq x y) (ih t) false)) b) a
theorem ltT_eq : ∀ (a b : List Nat), Bytes a → Bytes b → ltT a b = Op.bytesLess (a.map UInt8.ofNat) (b.map UInt8.ofNat) := by
  intro a
  induction a with
  | nil => intro b _ _; cases b <;> rfl
  | cons x a ih =>
    intro b ha hb
    cases b with
    | nil => rfl
    | cons y b =>
      have hx : x < 256 := ha x (by simp)
      have hy : y < 256 := hb y (by simp)
      show bif' (Nat.ble (Nat.succ x) y) true (bif' (Nat.beq x y) (ltT a b) false) = (decide (UInt8.ofNat x < UInt8.ofNat y) || (UInt8.ofNat x == UInt8.ofNat y && Op.bytesLess (a.map UInt8.ofNat) (b.map UInt8.ofNat)))
      rw [ih b (fun z hz => ha z (by simp [hz])) (fun z hz => hb z (by simp [hz]))]
      have e1 : decide (UInt8.ofNat x < UInt8.ofNat y) = Nat.ble (Nat.succ x) y := by
        rw [Bool.eq_iff_iff, decide_eq_true_iff, UInt8.lt_iff_toNat_lt]
        simp only [UInt8.toNat_ofNat']
        rw [Nat.mod_eq_of_lt hx, Nat.mod_eq_of_lt hy]
        exact ⟨fun h => Nat.ble_eq_true_of_le h, fun h => Nat.le_of_ble_eq_true h⟩
      have e2 : (UInt8.ofNat x == UInt8.ofNat y) = Nat.beq x y := by
        rw [Bool.eq_iff_iff, beq_iff_eq]
        refine ⟨fun h => ?_, fun h => by rw [Nat.eq_of_beq_eq_true h]⟩
        have := congrArg UInt8.toNat h
        simp only [UInt8.toNat_ofNat'] at this
        rw [Nat.mod_eq_of_lt hx, Nat.mod_eq_of_lt hy] at this
        subst this
        simp
      rw [e1, e2]
      cases Nat.ble (Nat.succ x) y <;> cases Nat.beq x y <;> rfl
def b2s (op : BinOp) (a b : List Nat) : Option AV := match op with
  | .add => bif' (Nat.ble (lenL a + lenL b) i64most) (sList (appL a b) fun l => some (.str l)) none
  | .eql => some (.bool (eqT a b))
  | .neq => some (.bool (!eqT a b))
  | .lss => some (.bool (ltT a b))
  | .leq => some (.bool (ltT a b || eqT a b))
  | .gtr => some (.bool (!(ltT a b || eqT a b)))
  | .geq => some (.bool (!ltT a b))
  | _ => none
/-- Equal or not, where one side is nothing. -/
def eqNil (x y : AV) : Option Bool := match x with
  | .nilp => (match y with | .nilp => some true | .ptr _ _ _ => some false | _ => none)
  | .ptr _ _ _ => (match y with | .nilp => some false | _ => none)
  | .nils => (match y with | .nils => some true | .sl _ _ _ _ _ => some false | _ => none)
  | .sl _ _ _ _ _ => (match y with | .nils => some false | _ => none)
  | .sl0 _ _ _ => (match y with | .nils => some false | _ => none)
  | .nilf => (match y with | .nilf => some true | .fn _ _ _ => some false | _ => none)
  | .fn _ _ _ => (match y with | .nilf => some false | _ => none)
  | .bool a => (match y with | .bool b => some (a == b) | _ => none)
  | _ => none
/-- Does the type fit such an equality? -/
def eqFits (d : Option TypeDesc) (x : AV) : Bool := match d with
  | some (.pointer _) => (match x with | .nilp => true | .ptr _ _ _ => true | _ => false)
  | some (.slice _) => (match x with | .nils => true | .sl _ _ _ _ _ => true | .sl0 _ _ _ => true | _ => false)
  | some (.func _ _ _) => (match x with | .nilf => true | .fn _ _ _ => true | _ => false)
  | some .bool => (match x with | .bool _ => true | _ => false)
  | _ => false
/-- Two rows of two numbers. -/
def eqTwo (a b : List AV) : Option Bool := match a with
  | x1 :: x2 :: [] => (match b with
    | y1 :: y2 :: [] => (match x1 with
      | .int k a1 => (match x2 with
        | .int k' a2 => (match y1 with
          | .int j b1 => (match y2 with
            | .int j' b2 => need (eqK k j) (need (eqK k' j') (some (bif' (eqI a1 b1) (eqI a2 b2) false)))
            | _ => none)
          | _ => none)
        | _ => none)
      | _ => none)
    | _ => none)
  | _ => none
/-- Two cells of a plain type. -/
def eqPl (P : Program) (t : TypeId) (x y : AV) : Option Bool := match P.underlying t with
  | some (.int _) => (match x with
    | .int k a => (match y with
      | .int k' b => need (eqK k k') (some (eqI a b))
      | _ => none)
    | _ => none)
  | some .string => (match x with
    | .str a => (match y with
      | .str b => some (eqT a b)
      | _ => none)
    | _ => none)
  | some .bool => (match x with
    | .bool a => (match y with
      | .bool b => some (bif' a b (!b))
      | _ => none)
    | _ => none)
  | _ => none
/-- Two structs of plain parts. -/
def eqFs (P : Program) (fs : List Field) (a b : List AV) : Option Bool := List.rec (some true) (fun f _ ih => need (!(decide (f.name = "_"))) (ob (nth a f.offset) fun x => ob (nth b f.offset) fun y => ob (eqPl P f.type x y) fun r => bif' r ih (some false))) fs
def eqAgg (P : Program) (t : TypeId) (a b : List AV) : Option Bool := match P.underlying t with
  | some (.struct fs) => need (!P.stoodInHeld t) (need (!P.eqGuardType P.depth t) (eqFs P fs.toList a b))
  | some (.array n e) => need (Nat.beq n 2) (match P.underlying e with
    | some (.int _) => need (Nat.beq (P.cellsOf e) 1) (eqTwo a b)
    | _ => none)
  | _ => none
def b2 (P : Program) (op : BinOp) (t : TypeId) (x y : AV) : Option AV := match x with
  | .agg a => (match y with
    | .agg b => (match op with
      | .eql => ob (eqAgg P t a b) fun r => some (.bool r)
      | .neq => ob (eqAgg P t a b) fun r => some (.bool !r)
      | _ => none)
    | _ => none)
  | .int k a => (match y with
    | .int k' b => (match op with
      | .shl => bif' (ltI b 0) none (sInt (wrapF k (a * 2 ^ (min b.toNat k.bits))) fun z => some (.int k z))
      | .shr => bif' (ltI b 0) none (sInt (a.fdiv (2 ^ (min b.toNat k.bits))) fun z => some (.int k z))
      | _ => need (eqK k k') (b2i op k a b))
    | _ => none)
  | .str a => (match y with
    | .str b => b2s op a b
    | _ => none)
  | x => (match op with
    | .eql => need (eqFits (P.underlying t) x) (ob (eqNil x y) fun b => some (.bool b))
    | .neq => need (eqFits (P.underlying t) x) (ob (eqNil x y) fun b => some (.bool !b))
    | _ => none)

theorem bif_none {α : Type} {b : Bool} {x : Option α} {r : α} (h : bif' b none x = some r) : b = false ∧ x = some r := by
  cases b with
  | true => exact nomatch h
  | false => exact ⟨rfl, h⟩
theorem bif_some {α : Type} {b : Bool} {x : Option α} {r : α} (h : bif' b x none = some r) : b = true ∧ x = some r := by
  cases b with
  | false => exact nomatch h
  | true => exact ⟨rfl, h⟩
theorem eqI_zero {b : Int} (h : eqI b 0 = false) : b ≠ 0 := by
  rw [eqI_eq] at h
  simpa using h

theorem b2i_ok {P : Program} {op : BinOp} {t : TypeId} {k : IntKind} {a b : Int} {v : AV} (h : b2i op k a b = some v) (hsl : op ≠ .shl) (hsr : op ≠ .shr) (p : Pls) (hp : Hp) (X Y : Operand) (w : World) :
    (do eqGuard op t X Y (.int k a) (.int k b); binOp op t (.int k a) (.int k b) : Sem Value).run P w = .ok (conc p v) w ∧ WF hp v := by
  cases op <;> simp only [b2i, sInt_eq] at h <;> first
    | (exact absurd rfl hsl; done)
    | (exact absurd rfl hsr; done)
    | (cases h; done)
    | skip
  all_goals first
    | (injection h with h; subst h; refine ⟨?_, trivial⟩; simp [go_sem, wrapF_eq, conc, eqI_eq, ltI_eq, Op.intBits]; done)
    | (injection h with h; subst h; refine ⟨?_, trivial⟩; simp [go_sem, wrapF_eq, conc, eqI_eq, ltI_eq, Op.intBits, bne]; done)
    | (injection h with h; subst h; refine ⟨?_, trivial⟩; simp [go_sem, wrapF_eq, conc, eqI_eq, ltI_eq, Op.intBits]; rw [← decide_not]; congr 1; exact propext (by omega))
    | (obtain ⟨h0, h⟩ := bif_none h; have hb := eqI_zero h0; injection h with h; subst h; refine ⟨?_, trivial⟩; simp [go_sem, wrapF_eq, conc, hb]; done)
    | skip

theorem bytes_toList (s : ByteArray) : s.toList = s.data.toList := by
  rw [ByteArray.toList_eq]
theorem toList_bytesOf (l : List Nat) : (bytesOf l).toList = l.map UInt8.ofNat := by rw [bytes_toList]; rfl
theorem map_u8_inj {a b : List Nat} (ha : Bytes a) (hb : Bytes b) : a.map UInt8.ofNat = b.map UInt8.ofNat ↔ a = b := by
  constructor
  · intro h
    have := congrArg (List.map UInt8.toNat) h
    have e1 := textOf_bytesOf ha
    have e2 := textOf_bytesOf hb
    unfold textOf bytesOf at e1 e2
    simp only at e1 e2
    rw [← e1, ← e2]
    exact this
  · intro h; rw [h]
theorem bytesOf_append (a b : List Nat) : bytesOf a ++ bytesOf b = bytesOf (a ++ b) := by
  have h : (bytesOf a ++ bytesOf b).data = (bytesOf (a ++ b)).data := by
    rw [ByteArray.data_append]
    apply Array.ext'
    simp [bytesOf]
  exact ByteArray.ext h
theorem b2s_ok {P : Program} {op : BinOp} {t : TypeId} {a b : List Nat} {v : AV} (h : b2s op a b = some v) (ha : Bytes a) (hb : Bytes b) (p : Pls) (hp : Hp) (X Y : Operand) (w : World) :
    (do eqGuard op t X Y (.string (bytesOf a)) (.string (bytesOf b)); binOp op t (.string (bytesOf a)) (.string (bytesOf b)) : Sem Value).run P w = .ok (conc p v) w ∧ WF hp v := by
  cases op <;> simp only [b2s, sList_eq, appL_eq, lenL_eq, eqT_eq] at h <;> first
    | (cases h; done)
    | skip
  · obtain ⟨h0, h⟩ := bif_some h
    injection h with h
    subst h
    have hle := i64most_le h0
    have hn : ¬ 9223372036854775807 < (a.length : Int) + b.length := by omega
    refine ⟨?_, ?_⟩
    · simp [go_sem, conc, binOp, Op.stringOp, size_bytesOf, hn, bytesOf_append]
    · intro x hx
      rcases List.mem_append.1 hx with hx | hx
      · exact ha x hx
      · exact hb x hx
  · injection h with h
    subst h
    refine ⟨?_, trivial⟩
    have : (a.map UInt8.ofNat == b.map UInt8.ofNat) = decide (a = b) := by rw [Bool.eq_iff_iff, beq_iff_eq, decide_eq_true_iff]; exact map_u8_inj ha hb
    simp [go_sem, conc, binOp, Op.stringOp, toList_bytesOf, this]
  · injection h with h
    subst h
    refine ⟨?_, trivial⟩
    have : (a.map UInt8.ofNat == b.map UInt8.ofNat) = decide (a = b) := by rw [Bool.eq_iff_iff, beq_iff_eq, decide_eq_true_iff]; exact map_u8_inj ha hb
    simp [go_sem, conc, binOp, Op.stringOp, toList_bytesOf, this]
  all_goals
    injection h with h
    subst h
    refine ⟨?_, trivial⟩
    have : (a.map UInt8.ofNat == b.map UInt8.ofNat) = decide (a = b) := by rw [Bool.eq_iff_iff, beq_iff_eq, decide_eq_true_iff]; exact map_u8_inj ha hb
    simp [go_sem, conc, binOp, Op.stringOp, toList_bytesOf, this, ltT_eq a b ha hb]

theorem conc_ptr {p : Pls} {h : Hp} (hc : Cov p h) {c m off : Nat} (hw : WF h (.ptr c m off)) : ∃ q, p c m = some q ∧ conc p (.ptr c m off) = .pointer (some ⟨q.b, q.d + off, none⟩) := by
  obtain ⟨C, h1, h2⟩ := hw
  obtain ⟨q, hq⟩ := hc c C h1 m h2
  exact ⟨q, hq, by simp only [conc, hq]⟩
theorem conc_sl {p : Pls} {h : Hp} (hc : Cov p h) {c m off len esz : Nat} (hw : WF h (.sl c m off len esz)) :
    ∃ q, p c m = some q ∧ conc p (.sl c m off len esz) = .slice (some ⟨q.b, q.d + off, none⟩) len ((q.e - off) / esz) := by
  obtain ⟨C, e, h1, h2, _⟩ := hw
  obtain ⟨q, hq⟩ := hc c C h1 m (List.getElem?_eq_some_iff.1 h2).1
  exact ⟨q, hq, by simp only [conc, hq]⟩
theorem maxDepth_succ : ∃ d, Op.maxDepth = d + 1 := ⟨9999, rfl⟩
theorem equal_ptr {P : Program} {t e : TypeId} (hd : P.underlying t = some (.pointer e)) (a b : Option Addr) (r : Bool) (h : (a = none ∧ r = b.isNone) ∨ (a ≠ none ∧ b = none ∧ r = false)) (w : World) :
    (Op.equal t (.pointer a) (.pointer b)).run P w = .ok r w := by
  obtain ⟨d, hm⟩ := maxDepth_succ
  unfold Op.equal
  rw [hm]
  rcases h with ⟨rfl, rfl⟩ | ⟨h1, rfl, rfl⟩
  · simp only [Op.equalIn, Sem.run_bind, run_underlying hd, Result.andThen_ok, Sem.run_pure]
  · cases a with
    | none => exact absurd rfl h1
    | some a => simp only [Op.equalIn, Sem.run_bind, run_underlying hd, Result.andThen_ok, Sem.run_pure]
theorem equal_slice {P : Program} {t e : TypeId} (hd : P.underlying t = some (.slice e)) (a b : Option Addr) (n m k l : Nat) (r : Bool) (h : (a = none ∧ r = b.isNone) ∨ (a ≠ none ∧ b = none ∧ r = false)) (w : World) :
    (Op.equal t (.slice a n m) (.slice b k l)).run P w = .ok r w := by
  obtain ⟨d, hm⟩ := maxDepth_succ
  unfold Op.equal
  rw [hm]
  rcases h with ⟨rfl, rfl⟩ | ⟨h1, rfl, rfl⟩
  · simp only [Op.equalIn, Sem.run_bind, run_underlying hd, Result.andThen_ok, Sem.run_pure]
  · cases a with
    | none => exact absurd rfl h1
    | some a => simp only [Op.equalIn, Sem.run_bind, run_underlying hd, Result.andThen_ok, Sem.run_pure]
theorem equal_func {P : Program} {t : TypeId} {a1 a2 : Array TypeId} {a3 : Bool} (hd : P.underlying t = some (.func a1 a2 a3)) (f : Fn) (x y : Array Value) (w : World) :
    (Op.equal t .nilFunc .nilFunc).run P w = .ok true w ∧ (Op.equal t .nilFunc (.func f x y)).run P w = .ok false w ∧ (Op.equal t (.func f x y) .nilFunc).run P w = .ok false w := by
  obtain ⟨d, hm⟩ := maxDepth_succ
  unfold Op.equal
  rw [hm]
  simp only [Op.equalIn, Sem.run_bind, run_underlying hd, Result.andThen_ok, Sem.run_pure, and_self]
theorem equal_bool {P : Program} {t : TypeId} (hd : P.underlying t = some .bool) (a b : Bool) (w : World) : (Op.equal t (.bool a) (.bool b)).run P w = .ok (a == b) w := by
  obtain ⟨d, hm⟩ := maxDepth_succ
  unfold Op.equal
  rw [hm]
  simp only [Op.equalIn, Sem.run_bind, run_underlying hd, Result.andThen_ok, Sem.run_pure]
theorem eqNil_ok {P : Program} {t : TypeId} {x y : AV} {b : Bool} (hf : eqFits (P.underlying t) x = true) (h : eqNil x y = some b) {p : Pls} {hp : Hp} (hc : Cov p hp) (hx : WF hp x) (hy : WF hp y) (w : World) :
    (Op.equal t (conc p x) (conc p y)).run P w = .ok b w ∧ (∀ n X Y, eqGuard n t X Y (conc p x) (conc p y) = pure ()) ∧ (∀ op, op = BinOp.eql ∨ op = BinOp.neq → binOp op t (conc p x) (conc p y) = (match op with | .eql => do pure (.bool (← Op.equal t (conc p x) (conc p y))) | _ => do pure (.bool (!(← Op.equal t (conc p x) (conc p y)))))) := by
  unfold eqFits at hf
  split at hf
  · rename_i e hd
    cases x <;> simp only [Bool.false_eq_true] at hf <;> cases y <;> simp only [eqNil] at h <;> first | (cases h; done) | skip
    · injection h with h; subst h
      exact ⟨equal_ptr hd _ _ _ (by simp) w, fun n X Y => by simp only [conc, eqGuard_at_pointer], fun op ho => by rcases ho with rfl | rfl <;> rfl⟩
    · injection h with h; subst h
      obtain ⟨q, hq, e1⟩ := conc_ptr hc hy
      rw [e1]
      exact ⟨equal_ptr hd _ _ _ (by simp) w, fun n X Y => by simp only [conc, eqGuard_at_pointer], fun op ho => by rcases ho with rfl | rfl <;> rfl⟩
    · injection h with h; subst h
      obtain ⟨q, hq, e1⟩ := conc_ptr hc hx
      rw [e1]
      exact ⟨equal_ptr hd _ _ _ (by simp) w, fun n X Y => by simp only [conc, eqGuard_at_pointer], fun op ho => by rcases ho with rfl | rfl <;> rfl⟩
  · rename_i e hd
    cases x <;> simp only [Bool.false_eq_true] at hf <;> cases y <;> simp only [eqNil] at h <;> first | (cases h; done) | skip
    · injection h with h; subst h
      exact ⟨equal_slice hd _ _ _ _ _ _ _ (by simp) w, fun n X Y => by simp only [conc, eqGuard_at_slice], fun op ho => by rcases ho with rfl | rfl <;> rfl⟩
    · injection h with h; subst h
      obtain ⟨q, hq, e1⟩ := conc_sl hc hy
      rw [e1]
      exact ⟨equal_slice hd _ _ _ _ _ _ _ (by simp) w, fun n X Y => by simp only [conc, eqGuard_at_slice], fun op ho => by rcases ho with rfl | rfl <;> rfl⟩
    · injection h with h; subst h
      obtain ⟨q, hq, e1⟩ := conc_sl hc hx
      rw [e1]
      exact ⟨equal_slice hd _ _ _ _ _ _ _ (by simp) w, fun n X Y => by simp only [conc, eqGuard_at_slice], fun op ho => by rcases ho with rfl | rfl <;> rfl⟩
    · injection h with h; subst h
      exact ⟨equal_slice hd _ _ _ _ _ _ _ (by simp) w, fun n X Y => by simp only [conc, eqGuard_at_slice], fun op ho => by rcases ho with rfl | rfl <;> rfl⟩
  · rename_i a1 a2 a3 hd
    cases x <;> simp only [Bool.false_eq_true] at hf <;> cases y <;> simp only [eqNil] at h <;> first | (cases h; done) | skip
    all_goals
      injection h with h; subst h
      exact ⟨by first | exact (equal_func hd (.func 0) #[] #[] w).1 | exact (equal_func hd _ _ _ w).2.1 | exact (equal_func hd _ _ _ w).2.2, fun n X Y => by simp only [conc, eqGuard_at_func, eqGuard_at_nilFunc], fun op ho => by rcases ho with rfl | rfl <;> rfl⟩
  · rename_i hd
    cases x <;> simp only [Bool.false_eq_true] at hf <;> cases y <;> simp only [eqNil] at h <;> first | (cases h; done) | skip
    injection h with h; subst h
    exact ⟨equal_bool hd _ _ w, fun n X Y => by simp only [conc, eqGuard_at_bool], fun op ho => by rcases ho with rfl | rfl <;> rfl⟩
  · exact absurd hf (by decide)

theorem eqTwo_eq {a b : List AV} {r : Bool} (h : eqTwo a b = some r) : ∃ k k' a1 a2 b1 b2, a = [.int k a1, .int k' a2] ∧ b = [.int k b1, .int k' b2] ∧ r = (a1 == b1 && a2 == b2) := by
  unfold eqTwo at h
  split at h
  · split at h
    · split at h
      · split at h
        · split at h
          · split at h
            · obtain ⟨h1, h⟩ := need_eq h
              obtain ⟨h2, h⟩ := need_eq h
              injection h with h
              subst h
              have e1 := of_decide_eq_true h1
              have e2 := of_decide_eq_true h2
              subst e1 e2
              refine ⟨_, _, _, _, _, _, rfl, rfl, ?_⟩
              rw [eqI_eq, eqI_eq]
              have key : ∀ x y : Bool, bif' x y false = (x && y) := by intro x y; cases x <;> rfl
              exact key _ _
            · cases h
          · cases h
        · cases h
      · cases h
    · cases h
  · cases h
theorem eqPl_ok {P : Program} {t : TypeId} {x y : AV} {r : Bool} (h : eqPl P t x y = some r) {p : Pls} {hp : Hp} (hx : WF hp x) (hy : WF hp y) (d : Nat) (w : World) :
    (Op.equalIn (d + 1) t (conc p x) (conc p y)).run P w = .ok r w ∧ (isAgg t).run P w = .ok false w := by
  unfold eqPl at h
  split at h
  · rename_i k hd
    split at h
    · split at h
      · replace h := need_eq h
        obtain ⟨hk, h⟩ := h
        have hk := of_decide_eq_true hk
        subst hk
        injection h with h
        subst h
        rw [eqI_eq]
        exact ⟨run_equalIn_int w d t _ _ _ _ hd, by simp [isAgg, run_underlying hd]⟩
      · cases h
    · cases h
  · rename_i hd
    split at h
    · split at h
      · rename_i a _ b
        injection h with h
        subst h
        refine ⟨?_, by simp [isAgg, run_underlying hd]⟩
        simp only [conc]
        rw [run_equalIn_string w d t _ _ hd, toList_bytesOf, toList_bytesOf, eqT_eq]
        congr 1
        rw [Bool.eq_iff_iff, beq_iff_eq, decide_eq_true_iff]
        exact map_u8_inj hx hy
      · cases h
    · cases h
  · rename_i hd
    split at h
    · split at h
      · rename_i a _ b
        injection h with h
        subst h
        refine ⟨?_, by simp [isAgg, run_underlying hd]⟩
        simp only [conc]
        rw [run_equalIn_bool' w d t _ _ hd]
        cases a <;> cases b <;> rfl
      · cases h
    · cases h
  · cases h
theorem eqFs_ok {P : Program} {p : Pls} {hp : Hp} {a b : List AV} (ha : WFL hp a) (hb : WFL hp b) (d : Nat) (w : World) : ∀ (fs : List Field) (r : Bool), eqFs P fs a b = some r →
    (Op.eqFields (d + 1) (concL p a).toArray (concL p b).toArray fs).run P w = .ok r w := by
  intro fs
  induction fs with
  | nil => intro r h; injection h with h; subst h; rfl
  | cons f fs ih =>
    intro r h
    have h : need (!(decide (f.name = "_"))) (ob (nth a f.offset) fun x => ob (nth b f.offset) fun y => ob (eqPl P f.type x y) fun r => bif' r (eqFs P fs a b) (some false)) = some r := h
    replace h := need_eq h
    obtain ⟨hn, h⟩ := h
    replace h := ob_eq h
    obtain ⟨x, hx, h⟩ := h
    replace h := ob_eq h
    obtain ⟨y, hy, h⟩ := h
    replace h := ob_eq h
    obtain ⟨e, he, h⟩ := h
    rw [nth_eq] at hx hy
    have hname : f.name ≠ "_" := by simpa using hn
    have wx : WF hp x := (WFL_iff hp a).1 ha x (List.mem_of_getElem? hx)
    have wy : WF hp y := (WFL_iff hp b).1 hb y (List.mem_of_getElem? hy)
    obtain ⟨k1, k2⟩ := eqPl_ok he (p := p) wx wy d w
    have cx : (concL p a).toArray[f.offset]? = some (conc p x) := by rw [List.getElem?_toArray, concL_eq, List.getElem?_map, hx]; rfl
    have cy : (concL p b).toArray[f.offset]? = some (conc p y) := by rw [List.getElem?_toArray, concL_eq, List.getElem?_map, hy]; rfl
    have px : (part f.type (concL p a).toArray f.offset).run P w = .ok (conc p x) w := by simp only [part, Sem.run_bind, k2, Result.andThen_ok, Bool.false_eq_true, if_false, cx, Sem.run_pure]
    have py : (part f.type (concL p b).toArray f.offset).run P w = .ok (conc p y) w := by simp only [part, Sem.run_bind, k2, Result.andThen_ok, Bool.false_eq_true, if_false, cy, Sem.run_pure]
    unfold Op.eqFields
    rw [if_pos hname]
    simp only [Sem.run_bind, px, py, k1, Result.andThen_ok]
    cases e with
    | true =>
      rw [bif_true] at h
      simpa using ih r h
    | false =>
      rw [bif_false] at h
      injection h with h
      subst h
      simp
theorem eqAgg_ok {P : Program} {t : TypeId} {a b : List AV} {r : Bool} (h : eqAgg P t a b = some r) (p : Pls) {hp : Hp} (ha : WFL hp a) (hb : WFL hp b) (w : World) :
    (Op.equal t (conc p (.agg a)) (conc p (.agg b))).run P w = .ok r w ∧ ∀ n X Y, (eqGuard n t X Y (conc p (.agg a)) (conc p (.agg b))).run P w = .ok () w := by
  unfold eqAgg at h
  split at h
  · rename_i fs ht
    replace h := need_eq h
    obtain ⟨h1, h⟩ := h
    replace h := need_eq h
    obtain ⟨h2, h⟩ := h
    have h1 : P.stoodInHeld t = false := by simpa using h1
    have h2 : P.eqGuardType P.depth t = false := by simpa using h2
    have hfs : P.fieldsOf t = fs := by simp [Program.fieldsOf, ht]
    refine ⟨?_, fun n X Y => ?_⟩
    · unfold Op.equal
      obtain ⟨d, hd⟩ : ∃ d, Op.maxDepth = d + 1 + 1 := ⟨9998, rfl⟩
      rw [hd]
      simp only [conc]
      rw [run_equalIn_struct w (d + 1) t _ _ (by rw [hfs]; exact ht) h1, hfs]
      exact eqFs_ok ha hb d w fs.toList r h
    · simp only [conc]
      exact run_eqGuard_agg w n t X Y _ _ h2
  · rename_i n e ht
    replace h := need_eq h
    obtain ⟨h1, h⟩ := h
    replace h1 := Nat.eq_of_beq_eq_true h1
    subst h1
    split at h
    · rename_i kk he
      replace h := need_eq h
      obtain ⟨h2, h⟩ := h
      replace h2 := Nat.eq_of_beq_eq_true h2
      obtain ⟨k, k', a1, a2, b1, b2, rfl, rfl, rfl⟩ := eqTwo_eq h
      obtain ⟨i, hi⟩ := info_of_underlying he
      obtain ⟨d, hd⟩ : ∃ d, Op.maxDepth = d + 1 + 1 := ⟨9998, rfl⟩
      have hag : (isAgg e).run P w = .ok false w := by simp [isAgg, run_underlying he]
      have hp : ∀ (l : Array Value) (o : Nat) (x : Value), l[o]? = some x → (part e l o).run P w = .ok x w := fun l o x hx => by simp [part, hag, hx]
      refine ⟨?_, fun n X Y => ?_⟩
      · unfold Op.equal
        rw [hd]
        simp only [conc]
        rw [run_equalIn_array (w := w) (d + 1) _ _ ht hi, h2]
        have hr : List.range 2 = [0, 1] := rfl
        rw [hr]
        simp only [concL, Op.eqItems, conc]
        rw [Sem.run_bind, hp _ _ (.int k a1) (by simp)]
        simp only [Result.andThen_ok, Sem.run_bind]
        rw [hp _ _ (.int k b1) (by simp)]
        simp only [Result.andThen_ok, run_equalIn_int w d e k kk _ _ he]
        cases h3 : (a1 == b1) with
        | false => simp
        | true =>
          simp only [Bool.not_true, Bool.false_eq_true, if_false, Sem.run_bind]
          rw [hp _ _ (.int k' a2) (by simp)]
          simp only [Result.andThen_ok, Sem.run_bind]
          rw [hp _ _ (.int k' b2) (by simp)]
          simp only [Result.andThen_ok, run_equalIn_int w d e k' kk _ _ he]
          cases h4 : (a2 == b2) <;> simp
      · have hg : P.eqGuardType P.depth t = false := by
          obtain ⟨m, hm⟩ : ∃ m, P.depth = m + 1 + 1 := ⟨2 * (P.types.size + Made.depth), rfl⟩
          rw [hm]
          simp only [Program.eqGuardType, ht, he]
        unfold eqGuard
        simp only [conc]
        split <;> first | rfl | simp [hg]
    · cases h
  · cases h
theorem b2_ok {P : Program} {op : BinOp} {t : TypeId} {x y v : AV} (h : b2 P op t x y = some v) {p : Pls} {hp : Hp} (hc : Cov p hp) (hx : WF hp x) (hy : WF hp y) (X Y : Operand) (w : World) :
    (do eqGuard op t X Y (conc p x) (conc p y); binOp op t (conc p x) (conc p y) : Sem Value).run P w = .ok (conc p v) w ∧ WF hp v := by
  unfold b2 at h
  split at h
  · rename_i a
    split at h
    · rename_i b
      split at h
      · obtain ⟨r, hr, h⟩ := ob_eq h
        injection h with h
        subst h
        obtain ⟨h1, h2⟩ := eqAgg_ok hr p hx hy w
        refine ⟨?_, trivial⟩
        rw [Sem.run_bind, h2]
        simp only [Result.andThen_ok]
        have e : binOp .eql t (conc p (.agg a)) (conc p (.agg b)) = (do pure (.bool (← Op.equal t (conc p (.agg a)) (conc p (.agg b))))) := by simp only [conc]; rfl
        rw [e]
        simp only [Sem.run_bind, h1, Result.andThen_ok, Sem.run_pure]
        rfl
      · obtain ⟨r, hr, h⟩ := ob_eq h
        injection h with h
        subst h
        obtain ⟨h1, h2⟩ := eqAgg_ok hr p hx hy w
        refine ⟨?_, trivial⟩
        rw [Sem.run_bind, h2]
        simp only [Result.andThen_ok]
        have e : binOp .neq t (conc p (.agg a)) (conc p (.agg b)) = (do pure (.bool (!(← Op.equal t (conc p (.agg a)) (conc p (.agg b)))))) := by simp only [conc]; rfl
        rw [e]
        simp only [Sem.run_bind, h1, Result.andThen_ok, Sem.run_pure]
        rfl
      · cases h
    · cases h
  · rename_i k a
    split at h
    · rename_i k' b
      split at h
      · obtain ⟨h0, h⟩ := bif_none h
        rw [sInt_eq] at h
        injection h with h
        subst h
        rw [ltI_eq] at h0
        have h1 : ¬ b < 0 := by simpa using h0
        exact ⟨by simp [go_sem, conc, Op.shift, h1, wrapF_eq], trivial⟩
      · obtain ⟨h0, h⟩ := bif_none h
        rw [sInt_eq] at h
        injection h with h
        subst h
        rw [ltI_eq] at h0
        have h1 : ¬ b < 0 := by simpa using h0
        exact ⟨by simp [go_sem, conc, Op.shift, h1, wrapF_eq], trivial⟩
      · rename_i h1 h2
        obtain ⟨h0, h'⟩ := need_eq h
        clear h
        have hk : k = k' := by simpa [eqK] using h0
        subst hk
        exact b2i_ok h' (fun e => h1 e) (fun e => h2 e) p hp X Y w
    · cases h
  · rename_i a
    split at h
    · rename_i b
      exact b2s_ok h hx hy p hp X Y w
    · cases h
  · split at h
    · obtain ⟨h0, h⟩ := need_eq h
      obtain ⟨b, hb, h⟩ := ob_eq h
      injection h with h
      subst h
      obtain ⟨h1, h2, h3⟩ := eqNil_ok h0 hb hc hx hy w
      refine ⟨?_, trivial⟩
      rw [h2, h3 .eql (.inl rfl)]
      simp [h1, conc]
    · obtain ⟨h0, h⟩ := need_eq h
      obtain ⟨b, hb, h⟩ := ob_eq h
      injection h with h
      subst h
      obtain ⟨h1, h2, h3⟩ := eqNil_ok h0 hb hc hx hy w
      refine ⟨?_, trivial⟩
      rw [h2, h3 .neq (.inr rfl)]
      simp [h1, conc]
    · cases h

end
end Go.Proofs.Ytmjnbdkjekdkgaa
