/-
  A reckoner for closed calls: all operations that are no calls of functions.
-/
import Derived.Test.YtmjnbdkjekdkgaaEvH
import Derived.Laws.IdiomStrings
namespace Go.Proofs.Ytmjnbdkjekdkgaa
open Go
set_option linter.unusedVariables false
set_option linter.unusedSimpArgs false

noncomputable section

/-- Room enough for what is there. -/
def Room (p : Pls) (g : Hp) : Prop := ∀ c m C e, g c = some C → (exts C)[m]? = some e → ∃ q, p c m = some q ∧ e ≤ q.e
/-- What an operation does that only reckons. -/
def PuOk (P : Program) (v : AV) (s : (Operand → Value) → Sem Next) (R : Operand → Option AV) : Prop :=
  ∀ g : Hp, (∀ x v, R x = some v → WF g v) → ∀ p w ρ, Cov p g → Room p g → RFit R ρ p g → (s ρ).run P w = .ok (.value (conc p v)) w ∧ WF g v
def lenA (P : Program) (ts : List TypeId) (x : AV) : Option AV := match ts with
  | t :: [] => (match x with
    | .str l => (match P.underlying t with
      | some .string => sNat (lenL l) fun n => some (.int .i64 (Int.ofNat n))
      | _ => none)
    | .nils => (match P.underlying t with
      | some (.slice _) => some (.int .i64 0)
      | _ => none)
    | .slz _ _ _ _ _ => (match P.underlying t with
      | some (.slice _) => some (.int .i64 0)
      | _ => none)
    | .sl0 _ _ _ => (match P.underlying t with
      | some (.slice _) => some (.int .i64 0)
      | _ => none)
    | .sl _ _ _ n _ => (match P.underlying t with
      | some (.slice _) => some (.int .i64 (Int.ofNat n))
      | _ => none)
    | _ => none)
  | _ => none
theorem lenA_ok {P : Program} {ts : Array TypeId} {ty : TypeId} {x v : AV} (h : lenA P ts.toList x = some v) {p : Pls} {hp : Hp} (hc : Cov p hp) (hx : WF hp x) (w : World) :
    (Builtin.len_ ts ty #[conc p x]).run P w = .ok (conc p v) w ∧ WF hp v := by
  unfold lenA at h
  split at h
  · rename_i t hts
    have hts' : ts = #[t] := by apply Array.ext'; exact hts
    subst hts'
    split at h
    · split at h
      · rename_i hd
        rw [sNat_eq, lenL_eq] at h
        injection h with h; subst h
        exact ⟨by simp [Builtin.len_, run_underlying hd, conc, size_bytesOf, goInt], trivial⟩
      · cases h
    · split at h
      · rename_i hd
        injection h with h; subst h
        exact ⟨by simp [Builtin.len_, run_underlying hd, conc, goInt], trivial⟩
      · cases h
    · split at h
      · rename_i hd
        injection h with h; subst h
        obtain ⟨C, h1, h2⟩ := hx
        obtain ⟨q, hq⟩ := hc _ C h1 _ h2
        simp only [conc, hq]
        exact ⟨by simp [Builtin.len_, run_underlying hd, conc, goInt], trivial⟩
      · cases h
    · split at h
      · rename_i hd
        injection h with h; subst h
        exact ⟨by simp [Builtin.len_, run_underlying hd, conc, goInt], trivial⟩
      · cases h
    · split at h
      · rename_i hd
        injection h with h; subst h
        obtain ⟨q, hq, e1⟩ := conc_sl hc hx
        rw [e1]
        exact ⟨by simp [Builtin.len_, run_underlying hd, conc, goInt], trivial⟩
      · cases h
    · cases h
  · cases h
def mmA (mx : Bool) (vs : List AV) : Option AV := match vs with
  | x :: y :: [] => (match x with
    | .int k a => (match y with
      | .int _ b => some (.int k (bif' (bif' mx (ltI a b) (ltI b a)) b a))
      | _ => none)
    | _ => none)
  | _ => none
theorem mmA_ok {P : Program} {ts : Array TypeId} {ty : TypeId} {mx : Bool} {vs : List AV} {v : AV} (h : mmA mx vs = some v) (p : Pls) (hp : Hp) (w : World) :
    ((if mx then Builtin.max_ ts ty (concL p vs).toArray else Builtin.min_ ts ty (concL p vs).toArray).run P w = .ok (conc p v) w) ∧ WF hp v := by
  unfold mmA at h
  split at h
  · split at h
    · rename_i k a
      split at h
      · rename_i k' b
        injection h with h; subst h
        refine ⟨?_, trivial⟩
        cases mx with
        | true =>
          simp only [if_true, concL, conc, Builtin.max_, List.toList_toArray, List.foldlM_cons, List.foldlM_nil, Builtin.max2, Sem.run_bind, Sem.run_pure, Result.andThen_ok, bif_true, ltI_eq]
          by_cases hb : a < b
          · rw [decide_eq_true hb, bif_true, if_pos hb]
          · rw [decide_eq_false hb, bif_false, if_neg hb]
        | false =>
          simp only [Bool.false_eq_true, if_false, concL, conc, Builtin.min_, List.toList_toArray, List.foldlM_cons, List.foldlM_nil, Builtin.min2, Sem.run_bind, Sem.run_pure, Result.andThen_ok, bif_false, ltI_eq]
          by_cases hb : b < a
          · rw [decide_eq_true hb, bif_true, if_pos hb]
          · rw [decide_eq_false hb, bif_false, if_neg hb]
      · cases h
    · cases h
  · cases h

def two {β : Type} (l : List Operand) (R : Operand → Option AV) (k : AV → AV → Option β) : Option β := match l with
  | x :: y :: [] => ob (R x) fun x => ob (R y) fun y => k x y
  | _ => none
def ret (v : Option AV) (st : St) : Option (AV × St) := ob v fun v => some (v, st)
theorem ret_eq {v : Option AV} {st : St} {x : AV} {st' : St} (h : ret v st = some (x, st')) : v = some x ∧ st' = st := by
  replace h := ob_eq h
  obtain ⟨a, ha, h⟩ := h
  injection h with h
  injection h with h1 h2
  subst h1 h2
  exact ⟨ha, rfl⟩

def biA (P : Program) (R : Operand → Option AV) (b : Builtin) (args : List Operand) (ts : List TypeId) (st : St) : Option (AV × St) := match b with
  | .append => two args R fun s x => appendA P ts s x st
  | .len => (match args with
    | x :: [] => ret (ob (R x) fun x => lenA P ts x) st
    | _ => none)
  | .max => ret (ob (mapO R args) (mmA true)) st
  | .min => ret (ob (mapO R args) (mmA false)) st
  | _ => none
/-- A byte of a row. -/
def byteA (v : AV) : Option Nat := match v with
  | .int k n => (match k with
    | .u8 => ob (toN n) fun m => need (Nat.ble m 255) (some m)
    | _ => none)
  | _ => none
theorem byteA_eq {v : AV} {m : Nat} (h : byteA v = some m) : v = .int .u8 (m : Nat) ∧ m < 256 := by
  unfold byteA at h
  split at h
  · split at h
    · rename_i n
      replace h := ob_eq h
      obtain ⟨k, hk, h⟩ := h
      obtain ⟨h1, h⟩ := need_eq h
      injection h with h
      subst h
      have := Nat.le_of_ble_eq_true h1
      exact ⟨by rw [toN_eq hk], by omega⟩
    · cases h
  · cases h
/-- Bytes in memory become a text. -/
def bytesA (x : AV) (h : Hp) : Option AV := match x with
  | .nils => some (.str [])
  | .sl c m off len _ => ob (rowOf h c m) fun r => takeK len (dropN off r.2.2.1) fun l => ob (mapO byteA l) fun bs => sList bs fun bs => some (.str bs)
  | _ => none
def convM (P : Program) (s d : TypeId) (x : AV) (h : Hp) : Option AV := match P.underlying s with
  | some (.slice e) => (match P.underlying e with
    | some (.int .u8) => (match P.underlying d with
      | some .string => bytesA x h
      | _ => none)
    | _ => none)
  | _ => conv P s d x
theorem bytesA_wf {hp : Hp} {x v : AV} (h : bytesA x hp = some v) : WF hp v := by
  unfold bytesA at h
  split at h
  · injection h with h
    subst h
    exact fun x hx => by cases hx
  · rename_i c m off len z
    replace h := ob_eq h
    obtain ⟨r, hr, h⟩ := h
    obtain ⟨h3, h⟩ := takeK_eq _ _ _ _ h
    replace h := ob_eq h
    obtain ⟨bs, hbs, h⟩ := h
    rw [sList_eq] at h
    injection h with h
    subst h
    intro b hb
    obtain ⟨j, hj⟩ := List.getElem?_of_mem hb
    have hl := mapO_length _ _ _ hbs
    have hj2 : j < (List.take len (dropN off r.2.2.1)).length := by rw [← hl]; exact (List.getElem?_eq_some_iff.1 hj).1
    obtain ⟨b', h4, h5⟩ := mapO_get _ _ _ hbs j _ (List.getElem?_eq_getElem hj2)
    rw [hj] at h4
    injection h4 with h4
    subst h4
    exact (byteA_eq h5).2
  · cases h
theorem bytesA_ok {P : Program} {s d e : TypeId} {hp : Hp} {x v : AV} (h : bytesA x hp = some v) (hs : P.underlying s = some (.slice e)) (he : P.underlying e = some (.int .u8)) (hd : P.underlying d = some .string)
    {w0 : World} {p : Pls} {w : World} (H : HR w0 p hp w) : (convert s d (conc p x)).run P w = .ok (conc p v) w ∧ WF hp v := by
  unfold bytesA at h
  split at h
  · injection h with h
    subst h
    refine ⟨?_, fun x hx => by cases hx⟩
    have e0 : conc p .nils = .slice none 0 0 := rfl
    rw [e0, run_convert_bytes_string w s d e none 0 0 hs he hd]
    rfl
  · rename_i c m off len z
    replace h := ob_eq h
    obtain ⟨⟨e', vs, l, ro, ms⟩, hr, h⟩ := h
    obtain ⟨h3, h⟩ := takeK_eq _ _ _ _ h
    replace h := ob_eq h
    obtain ⟨bs, hbs, h⟩ := h
    rw [sList_eq] at h
    injection h with h
    subst h
    obtain ⟨hc, hm⟩ := rowOf_ok hr
    obtain ⟨q, arr, el, hq, _, _, _, _, hwl, _, _, hcell⟩ := H.read hc hm
    simp only at h3 hbs
    rw [dropN_eq] at h3 hbs
    have hlen : bs.length = len := by rw [mapO_length _ _ _ hbs, List.length_take]; omega
    have hat : ∀ j b, bs[j]? = some b → l[off + j]? = some (.int .u8 (b : Nat)) ∧ b < 256 := by
      intro j b hj
      have hjl : j < len := by rw [← hlen]; exact (List.getElem?_eq_some_iff.1 hj).1
      have hjr : j < ((l.drop off).take len).length := by rw [List.length_take]; omega
      obtain ⟨b', h4, h5⟩ := mapO_get _ _ _ hbs j _ (List.getElem?_eq_getElem hjr)
      rw [hj] at h4
      injection h4 with h4
      subst h4
      obtain ⟨h6, h7⟩ := byteA_eq h5
      refine ⟨?_, h7⟩
      have : ((l.drop off).take len)[j]? = some (.int .u8 (b : Nat)) := by rw [List.getElem?_eq_getElem hjr, h6]
      rw [List.getElem?_take, if_pos hjl, List.getElem?_drop] at this
      exact this
    have hB : Bytes bs := fun b hb => by
      obtain ⟨j, hj⟩ := List.getElem?_of_mem hb
      exact (hat j b hj).2
    refine ⟨?_, hB⟩
    have e1 : ∃ cap, conc p (.sl c m off len z) = .slice (some ⟨q.b, q.d + off, none⟩) (bs.map UInt8.ofNat).length cap := by
      rw [List.length_map, hlen]
      simp only [conc, hq]
      exact ⟨_, rfl⟩
    obtain ⟨cap, e1⟩ := e1
    rw [e1, run_convert_bytes_back w s d e ⟨q.b, q.d + off, none⟩ cap (bs.map UInt8.ofNat) hs he hd (fun j hj => by
      rw [add_zero_off, Nat.add_assoc]
      have hj' : j < bs.length := by simpa using hj
      obtain ⟨h6, h7⟩ := hat j bs[j] (List.getElem?_eq_getElem hj')
      rw [hcell (off + j) _ (by rw [concL_get, h6]; rfl)]
      simp only [conc, List.getElem_map, UInt8.toNat_ofNat']
      rw [Nat.mod_eq_of_lt h7])]
    rfl
  · cases h
/-- An operation that calls no function. -/
def aop (P : Program) (R : Operand → Option AV) (o : Op) (st : St) : Option (AV × St) := match o with
  | .move x => ret (R x) st
  | .assign x => ret (R x) st
  | .pick c a b => ob (R c) fun c => (match c with
    | .bool t => ret (bif' t (R a) (R b)) st
    | _ => none)
  | .alloc t => allocA P t st
  | .box t x => ob (R x) fun x => boxA x st
  | .build t parts => ret (buildA P t parts R) st
  | .buildSlice t n parts => buildSliceA P t n parts R st
  | .load t a => ob (R a) fun x => ret (loadA P t x st.h.get) st
  | .store t a v => ob (R a) fun x => ob (R v) fun y => storeA P t x y st
  | .nilCheck x => ret (ob (R x) fun v => (match v with
    | .ptr c m off => some (.ptr c m off)
    | .fn f a c => some (.fn f a c)
    | _ => none)) st
  | .binOp op t x y _ => ret (ob (R x) fun x => ob (R y) fun y => b2 P op t x y) st
  | .unOp op _ x => ret (ob (R x) fun x => un1 op x) st
  | .convert s d x => ret (ob (R x) fun x => convM P s d x st.h.get) st
  | .makeFunc fn a c => (match fn with
    | .func f => ret (ob (mapO R a.toList) fun l => ob (mapO R c.toList) fun r => some (.fn f l r)) st
    | _ => none)
  | .makeSlice t l c => ob (R l) fun x => ob (R c) fun y => makeSliceA P t x y st
  | .slice t x lo hi mx => (match mx with
    | none => ret (ob (R x) fun x => sliceA P t x R lo hi) st
    | _ => none)
  | .fieldAddr t x f => ret (ob (R x) fun x => fieldAddrA P t x f) st
  | .field t x f => ret (ob (R x) fun x => fieldA P t x f) st
  | .indexAddr t x i => ret (ob (R x) fun x => ob (R i) fun i => indexAddrA P t x i) st
  | .index t x i => ret (ob (R x) fun x => ob (R i) fun i => indexA P t x i) st
  | .range t x => ob (R x) fun x => rangeA P t x st
  | .next it s => (match s with
    | true => ob (R it) fun x => nextA x st
    | false => none)
  | .extract t i => ret (ob (R t) fun v => (match v with
    | .tup l => nth l i
    | _ => none)) st
  | .call c => (match c.callee with
    | .builtin b => biA P R b c.args.toList c.argTypes.toList st
    | _ => none)
  | _ => none

theorem rows_ok {R : Operand → Option AV} {ρ : Operand → Value} {p : Pls} {hp : Hp} (hR : RFit R ρ p hp) : ∀ (l : List Operand) (r : List AV), mapO R l = some r → l.map ρ = concL p r ∧ WFL hp r := by
  intro l
  induction l with
  | nil => intro r h; injection h with h; subst h; exact ⟨rfl, trivial⟩
  | cons x l ih =>
    intro r h
    rw [mapO_cons] at h
    replace h := ob_eq h
    obtain ⟨b, hb, h⟩ := h
    replace h := ob_eq h
    obtain ⟨t, ht, h⟩ := h
    injection h with h
    subst h
    obtain ⟨h1, h2⟩ := ih t ht
    obtain ⟨k1, k2⟩ := hR _ _ hb
    exact ⟨by simp only [List.map_cons, concL, h1, k1], k2, h2⟩

/-- What kind of an operation it is: 0, it only reckons; 1, it reads; 2, it makes a class; 3, anything else. -/
def kindA (P : Program) (o : Op) : Nat := match o with
  | .convert s _ _ => (match P.underlying s with
    | some (.slice _) => 3
    | _ => 0)
  | .move _ | .assign _ | .pick _ _ _ | .build _ _ | .nilCheck _ | .binOp _ _ _ _ _ | .unOp _ _ _ | .makeFunc _ _ _ | .slice _ _ _ _ _ | .fieldAddr _ _ _ | .field _ _ _ | .indexAddr _ _ _ | .index _ _ _ | .extract _ _ => 0
  | .load _ _ => 1
  | .alloc _ | .box _ _ | .buildSlice _ _ _ | .makeSlice _ _ _ | .range _ _ => 2
  | .call c => (match c.callee with
    | .builtin b => (match b with
      | .len => 0
      | .max => 0
      | .min => 0
      | _ => 3)
    | _ => 3)
  | _ => 3

inductive Kind4 (P : Program) (R : Operand → Option AV) (o : Oper) (st : St) (v : AV) (st' : St) : Nat → Prop
  | pure (h1 : st' = st) (h2 : PuOk P v (fun ρ => execOp ρ o) R) : Kind4 P R o st v st' 0
  | load (t : TypeId) (a : Operand) (x : AV) (h1 : st' = st) (h2 : o.op = .load t a) (h3 : R a = some x) (h4 : loadA P t x st.h.get = some v) : Kind4 P R o st v st' 1
  | make (C : Cls) (h1 : st' = ⟨st.n + 1, st.h.set st.n C⟩) (h2 : AlOk P st.n C v (fun ρ _ => execOp ρ o) R) : Kind4 P R o st v st' 2
  | act (h : Fresh st → (∀ x v, R x = some v → WF st.h.get v) → OpOk P st st' v (fun ρ _ => execOp ρ o) R) : Kind4 P R o st v st' 3

theorem biA_kind {P : Program} {R : Operand → Option AV} {o : Oper} {c : Call} {b : Builtin} (ho : o.op = .call c) (hcb : c.callee = .builtin b) {st st' : St} {v : AV} (h : biA P R b c.args.toList c.argTypes.toList st = some (v, st')) :
    Kind4 P R o st v st' (kindA P o.op) := by
  have he : ∀ ρ, execOp ρ o = builtin b c.argTypes o.type (c.args.map fun x => match x with | .const _ => true | _ => false) (c.args.map ρ) := fun ρ => by
    obtain ⟨dst, op, type, pos, after, guard⟩ := o
    simp only at ho
    subst ho
    simp only [execOp, resolve, hcb, invoke]
    rfl
  unfold biA at h
  split at h
  · have hk : kindA P o.op = 3 := by rw [ho]; simp only [kindA, hcb]
    rw [hk]
    unfold two at h
    split at h
    · rename_i x y hargs
      have ha : c.args = #[x, y] := by apply Array.ext'; exact hargs
      replace h := ob_eq h
      obtain ⟨s, hs, h⟩ := h
      replace h := ob_eq h
      obtain ⟨u, hu, h⟩ := h
      refine .act fun hf hw => ?_
      have := appendA_ok (ty := o.type) h hs hu hf hw
      refine ⟨this.ab, this.wf, fun w0 p w ρ H hR => ?_⟩
      obtain ⟨p', w', h1, h2⟩ := this.sim w0 p w ρ H hR
      refine ⟨p', w', ?_, h2⟩
      rw [he, ha]
      simpa only [builtin, List.map_toArray, List.map_cons, List.map_nil] using h1
    · cases h
  · have hk : kindA P o.op = 0 := by rw [ho]; simp only [kindA, hcb]
    rw [hk]
    split at h
    · rename_i x hargs
      have ha : c.args = #[x] := by apply Array.ext'; exact hargs
      replace h := ret_eq h
      obtain ⟨h, rfl⟩ := h
      replace h := ob_eq h
      obtain ⟨u, hu, h⟩ := h
      refine .pure rfl fun g hw p w ρ hc _ hR => ?_
      obtain ⟨k1, k2⟩ := lenA_ok (ty := o.type) h hc (hw _ _ hu) w
      refine ⟨?_, k2⟩
      show (execOp ρ o).run P w = _
      rw [he, ha]
      simp only [builtin, List.map_toArray, List.map_cons, List.map_nil, (hR _ _ hu).1, Sem.run_bind, k1, Result.andThen_ok, Sem.run_pure]
    · cases h
  · have hk : kindA P o.op = 0 := by rw [ho]; simp only [kindA, hcb]
    rw [hk]
    replace h := ret_eq h
    obtain ⟨h, rfl⟩ := h
    replace h := ob_eq h
    obtain ⟨u, hu, h⟩ := h
    refine .pure rfl fun g hw p w ρ hc _ hR => ?_
    obtain ⟨k1, k2⟩ := mmA_ok (P := P) (ts := c.argTypes) (ty := o.type) h p g w
    refine ⟨?_, k2⟩
    have e : c.args.map ρ = (concL p u).toArray := by apply Array.ext'; rw [Array.toList_map]; exact (rows_ok hR _ _ hu).1
    simp only [if_true] at k1
    show (execOp ρ o).run P w = _
    rw [he]
    simp only [builtin, e, Sem.run_bind, k1, Result.andThen_ok, Sem.run_pure]
  · have hk : kindA P o.op = 0 := by rw [ho]; simp only [kindA, hcb]
    rw [hk]
    replace h := ret_eq h
    obtain ⟨h, rfl⟩ := h
    replace h := ob_eq h
    obtain ⟨u, hu, h⟩ := h
    refine .pure rfl fun g hw p w ρ hc _ hR => ?_
    obtain ⟨k1, k2⟩ := mmA_ok (P := P) (ts := c.argTypes) (ty := o.type) h p g w
    refine ⟨?_, k2⟩
    have e : c.args.map ρ = (concL p u).toArray := by apply Array.ext'; rw [Array.toList_map]; exact (rows_ok hR _ _ hu).1
    simp only [Bool.false_eq_true, if_false] at k1
    show (execOp ρ o).run P w = _
    rw [he]
    simp only [builtin, e, Sem.run_bind, k1, Result.andThen_ok, Sem.run_pure]
  · cases h

/-- What lies in rows is there. -/
def HWf (h : Hp) : Prop := ∀ (c : Nat) (ro : Bool) (ms : List (Nat × Nat × Option (List AV))) (m e vs : Nat) (l : List AV), h c = some (.row ro ms) → ms[m]? = some (e, vs, some l) → WFL h l
theorem HR.wf {w0 : World} {p : Pls} {h : Hp} {w : World} (H : HR w0 p h w) : HWf h := fun c ro ms m e vs l hc hm => by
  obtain ⟨q, arr, el, _, _, _, _, _, h6, _⟩ := H.read hc hm
  exact h6

theorem aop_kind {P : Program} {R : Operand → Option AV} (o : Oper) {st st' : St} {v : AV} (h : aop P R o.op st = some (v, st')) : Kind4 P R o st v st' (kindA P o.op) := by
  obtain ⟨dst, op, type, pos, after, guard⟩ := o
  simp only at h
  cases op <;> simp only [aop] at h <;> simp only [kindA]
  case move x =>
    replace h := ret_eq h
    obtain ⟨h, rfl⟩ := h
    exact .pure rfl fun g hw p w ρ hc _ hR => ⟨by simp only [execOp, Sem.run_pure, (hR _ _ h).1], hw _ _ h⟩
  case assign x =>
    replace h := ret_eq h
    obtain ⟨h, rfl⟩ := h
    exact .pure rfl fun g hw p w ρ hc _ hR => ⟨by simp only [execOp, Sem.run_pure, (hR _ _ h).1], hw _ _ h⟩
  case pick c a b =>
    replace h := ob_eq h
    obtain ⟨u, hu, h⟩ := h
    split at h
    · rename_i t
      replace h := ret_eq h
      obtain ⟨h, rfl⟩ := h
      cases t with
      | true =>
        rw [bif_true] at h
        exact .pure rfl fun g hw p w ρ hc _ hR => ⟨by simp only [execOp, (hR _ _ hu).1, conc, asBool, Sem.run_bind, Sem.run_pure, Result.andThen_ok, if_true, (hR _ _ h).1], hw _ _ h⟩
      | false =>
        rw [bif_false] at h
        exact .pure rfl fun g hw p w ρ hc _ hR => ⟨by simp only [execOp, (hR _ _ hu).1, conc, asBool, Sem.run_bind, Sem.run_pure, Result.andThen_ok, Bool.false_eq_true, if_false, (hR _ _ h).1], hw _ _ h⟩
    · cases h
  case alloc t => obtain ⟨C, h1, h2⟩ := allocA_ok (R := R) h; exact .make C h1 h2
  case box t x =>
    replace h := ob_eq h
    obtain ⟨u, hu, h⟩ := h
    obtain ⟨C, h1, h2⟩ := boxA_ok (P := P) (t := t) h hu
    exact .make C h1 h2
  case build t parts =>
    replace h := ret_eq h
    obtain ⟨h, rfl⟩ := h
    exact .pure rfl fun g hw p w ρ hc _ hR => by
      obtain ⟨k1, k2⟩ := buildA_ok h hR w
      exact ⟨by simp only [execOp, Sem.run_bind, k1, Result.andThen_ok, Sem.run_pure], k2⟩
  case buildSlice t n parts => obtain ⟨C, h1, h2⟩ := buildSliceA_ok h; exact .make C h1 h2
  case load t a =>
    replace h := ob_eq h
    obtain ⟨u, hu, h⟩ := h
    replace h := ret_eq h
    obtain ⟨h, rfl⟩ := h
    exact .load t a u rfl rfl hu h
  case store t a x =>
    replace h := ob_eq h
    obtain ⟨u, hu, h⟩ := h
    replace h := ob_eq h
    obtain ⟨y, hy, h⟩ := h
    exact .act fun hf hw => storeA_ok h hu hy (hw _ _ hy)
  case nilCheck x =>
    replace h := ret_eq h
    obtain ⟨h, rfl⟩ := h
    replace h := ob_eq h
    obtain ⟨u, hu, h⟩ := h
    split at h
    · injection h with h; subst h
      exact .pure rfl fun g hw p w ρ hc _ hR => by
        have hwu := hw _ _ hu
        obtain ⟨q, hq, e1⟩ := conc_ptr hc hwu
        simp only [execOp]
        rw [(hR _ _ hu).1, e1]
        exact ⟨rfl, hwu⟩
    · injection h with h; subst h
      exact .pure rfl fun g hw p w ρ hc _ hR => by
        simp only [execOp]
        rw [(hR _ _ hu).1]
        exact ⟨rfl, hw _ _ hu⟩
    · cases h
  case binOp op t x y yt =>
    replace h := ret_eq h
    obtain ⟨h, rfl⟩ := h
    replace h := ob_eq h
    obtain ⟨u, hu, h⟩ := h
    replace h := ob_eq h
    obtain ⟨z, hz, h⟩ := h
    exact .pure rfl fun g hw p w ρ hc _ hR => by
      obtain ⟨k1, k2⟩ := b2_ok h hc (hw _ _ hu) (hw _ _ hz) x y w
      refine ⟨?_, k2⟩
      simp only [execOp]
      rw [(hR _ _ hu).1, (hR _ _ hz).1]
      simp only [Sem.run_bind] at k1
      simp only [Sem.run_bind, k1, Result.andThen_ok, Sem.run_pure]
  case unOp op t x =>
    replace h := ret_eq h
    obtain ⟨h, rfl⟩ := h
    replace h := ob_eq h
    obtain ⟨u, hu, h⟩ := h
    exact .pure rfl fun g hw p w ρ hc _ hR => by
      obtain ⟨k1, k2⟩ := un1_ok (P := P) h p g w
      exact ⟨by simp only [execOp, (hR _ _ hu).1, Sem.run_bind, k1, Result.andThen_ok, Sem.run_pure], k2⟩
  case convert s d x =>
    replace h := ret_eq h
    obtain ⟨h, rfl⟩ := h
    replace h := ob_eq h
    obtain ⟨u, hu, h⟩ := h
    unfold convM at h
    split at h
    · rename_i e hs
      split at h
      · rename_i he
        split at h
        · rename_i hd
          refine .act fun hf hw => ⟨Ab.refl _, ?_, fun w0 p w ρ H hR => ?_⟩
          · exact bytesA_wf h
          · obtain ⟨k1, k2⟩ := bytesA_ok (P := P) h hs he hd H
            exact ⟨p, w, .inl (by simp only [execOp, (hR _ _ hu).1, Sem.run_bind, k1, Result.andThen_ok, Sem.run_pure]), Step.refl H⟩
        · cases h
      · cases h
    · rename_i hns
      exact .pure rfl fun g hw p w ρ hc _ hR => by
        obtain ⟨k1, k2⟩ := conv_ok h p g (hw _ _ hu) w
        exact ⟨by simp only [execOp, (hR _ _ hu).1, Sem.run_bind, k1, Result.andThen_ok, Sem.run_pure], k2⟩
  case makeFunc fn a c =>
    split at h
    · rename_i f
      replace h := ret_eq h
      obtain ⟨h, rfl⟩ := h
      replace h := ob_eq h
      obtain ⟨l, hl, h⟩ := h
      replace h := ob_eq h
      obtain ⟨r, hr, h⟩ := h
      injection h with h
      subst h
      exact .pure rfl fun g hw p w ρ hc _ hR => by
        have e1 : a.map ρ = (concL p l).toArray := by apply Array.ext'; rw [Array.toList_map]; exact (rows_ok hR _ _ hl).1
        have e2 : c.map ρ = (concL p r).toArray := by apply Array.ext'; rw [Array.toList_map]; exact (rows_ok hR _ _ hr).1
        refine ⟨?_, (rows_ok hR _ _ hl).2, (rows_ok hR _ _ hr).2⟩
        simp only [execOp, e1, e2, Instr.makeFunc, Sem.run_bind, Sem.run_pure, Result.andThen_ok, conc]
    · cases h
  case makeSlice t l c =>
    replace h := ob_eq h
    obtain ⟨u, hu, h⟩ := h
    replace h := ob_eq h
    obtain ⟨z, hz, h⟩ := h
    obtain ⟨C, h1, h2⟩ := makeSliceA_ok h hu hz
    exact .make C h1 h2
  case slice t x lo hi mx =>
    split at h
    · replace h := ret_eq h
      obtain ⟨h, rfl⟩ := h
      replace h := ob_eq h
      obtain ⟨u, hu, h⟩ := h
      exact .pure rfl fun g hw p w ρ hc hle hR => by
        obtain ⟨k1, k2⟩ := sliceA_ok h hc hle hR (hw _ _ hu) w
        refine ⟨?_, k2⟩
        simp only [execOp]
        rw [(hR _ _ hu).1, Option.map_none]
        simp only [Sem.run_bind, k1, Result.andThen_ok, Sem.run_pure]
    · cases h
  case fieldAddr t x f =>
    replace h := ret_eq h
    obtain ⟨h, rfl⟩ := h
    replace h := ob_eq h
    obtain ⟨u, hu, h⟩ := h
    exact .pure rfl fun g hw p w ρ hc _ hR => by
      obtain ⟨k1, k2⟩ := fieldAddrA_ok h hc (hw _ _ hu) w
      exact ⟨by simp only [execOp, (hR _ _ hu).1, Sem.run_bind, k1, Result.andThen_ok, Sem.run_pure], k2⟩
  case field t x f =>
    replace h := ret_eq h
    obtain ⟨h, rfl⟩ := h
    replace h := ob_eq h
    obtain ⟨u, hu, h⟩ := h
    exact .pure rfl fun g hw p w ρ hc _ hR => by
      obtain ⟨k1, k2⟩ := fieldA_ok h p g (hw _ _ hu) w
      exact ⟨by simp only [execOp, (hR _ _ hu).1, Sem.run_bind, k1, Result.andThen_ok, Sem.run_pure], k2⟩
  case indexAddr t x i =>
    replace h := ret_eq h
    obtain ⟨h, rfl⟩ := h
    replace h := ob_eq h
    obtain ⟨u, hu, h⟩ := h
    replace h := ob_eq h
    obtain ⟨z, hz, h⟩ := h
    exact .pure rfl fun g hw p w ρ hc _ hR => by
      obtain ⟨k1, k2⟩ := indexAddrA_ok h hc (hw _ _ hu) w
      exact ⟨by simp only [execOp, (hR _ _ hu).1, (hR _ _ hz).1, Sem.run_bind, k1, Result.andThen_ok, Sem.run_pure], k2⟩
  case index t x i =>
    replace h := ret_eq h
    obtain ⟨h, rfl⟩ := h
    replace h := ob_eq h
    obtain ⟨u, hu, h⟩ := h
    replace h := ob_eq h
    obtain ⟨z, hz, h⟩ := h
    exact .pure rfl fun g hw p w ρ hc _ hR => by
      obtain ⟨k1, k2⟩ := indexA_ok h p g (hw _ _ hu) w
      exact ⟨by simp only [execOp, (hR _ _ hu).1, (hR _ _ hz).1, Sem.run_bind, k1, Result.andThen_ok, Sem.run_pure], k2⟩
  case range t x =>
    replace h := ob_eq h
    obtain ⟨u, hu, h⟩ := h
    obtain ⟨C, h1, h2⟩ := rangeA_ok h hu
    exact .make C h1 h2
  case next it s =>
    split at h
    · replace h := ob_eq h
      obtain ⟨u, hu, h⟩ := h
      exact .act fun hf hw => nextA_ok h hu
    · cases h
  case extract t i =>
    replace h := ret_eq h
    obtain ⟨h, rfl⟩ := h
    replace h := ob_eq h
    obtain ⟨u, hu, h⟩ := h
    split at h
    · rename_i l
      rw [nth_eq] at h
      exact .pure rfl fun g hw p w ρ hc _ hR => by
        have e : (concL p l).toArray[i]? = some (conc p v) := rowHolds l i v h
        refine ⟨?_, WFL.get (hw _ _ hu) h⟩
        simp only [execOp]
        rw [(hR _ _ hu).1]
        simp only [conc, Instr.extract, e, Sem.run_bind, Sem.run_pure, Result.andThen_ok]
    · cases h
  case call c =>
    split at h
    · rename_i b hcb
      have t := biA_kind (o := ⟨dst, .call c, type, pos, after, guard⟩) rfl hcb h
      simp only [kindA, hcb] at t
      exact t
    · cases h
  all_goals cases h

/-- What an operation does, whatever its kind. -/
theorem aop_sim {P : Program} {R : Operand → Option AV} (o : Oper) {st st' : St} {v : AV} (h : aop P R o.op st = some (v, st')) (hf : Fresh st) (hw : ∀ x v, R x = some v → WF st.h.get v) : Ab st st' ∧
    ∀ (w0 : World) (p : Pls) (w : World) (ρ : Operand → Value), HR w0 p st.h.get w → RFit R ρ p st.h.get →
      ∃ p' w', ((execOp ρ o).run P w = .ok (.value (conc p' v)) w' ∨ ((execOp ρ o).run P w = .ok .skip w' ∧ conc p' v = undef)) ∧ Step w0 p w p' st'.h.get w' ∧ WF st'.h.get v := by
  have hk := aop_kind o h
  generalize kindA P o.op = k at hk
  cases hk with
  | pure h1 h2 =>
    subst h1
    refine ⟨Ab.refl _, fun w0 p w ρ H hR => ?_⟩
    obtain ⟨k1, k2⟩ := h2 st'.h.get hw p w ρ H.cov (fun c m C e a b => H.room c m C e a b) hR
    exact ⟨p, w, .inl k1, Step.refl H, k2⟩
  | load t a x h1 h2 h3 h4 =>
    subst h1
    refine ⟨Ab.refl _, fun w0 p w ρ H hR => ?_⟩
    obtain ⟨k1, k2⟩ := loadA_ok h4 H
    refine ⟨p, w, .inl ?_, Step.refl H, k2⟩
    obtain ⟨dst, op, type, pos, after, guard⟩ := o
    simp only at h2
    subst h2
    simp only [execOp, (hR _ _ h3).1, Sem.run_bind, k1, Result.andThen_ok, Sem.run_pure]
  | make C h1 h2 =>
    subst h1
    have := h2.op hf hw
    refine ⟨this.ab, fun w0 p w ρ H hR => ?_⟩
    obtain ⟨p', w', k1, k2⟩ := this.sim w0 p w ρ H hR
    exact ⟨p', w', k1, k2, this.wf⟩
  | act h1 =>
    have := h1 hf hw
    refine ⟨this.ab, fun w0 p w ρ H hR => ?_⟩
    obtain ⟨p', w', k1, k2⟩ := this.sim w0 p w ρ H hR
    exact ⟨p', w', k1, k2, this.wf⟩

/-! Only operands are asked. -/
theorem mapO_congr {α β : Type} {f g : α → Option β} : ∀ (l : List α), (∀ x ∈ l, f x = g x) → mapO f l = mapO g l := by
  intro l
  induction l with
  | nil => intro _; rfl
  | cons a l ih =>
    intro h
    rw [mapO_cons, mapO_cons, h a (by simp), ih fun x hx => h x (by simp [hx])]
theorem partsV_congr {R R' : Operand → Option AV} (ps : Array (Nat × Operand)) (h : ∀ x ∈ ps.toList.map (·.2), R x = R' x) : partsV R ps = partsV R' ps := by
  unfold partsV
  refine mapO_congr _ fun x hx => ?_
  rw [h x.2 (List.mem_map.2 ⟨x, hx, rfl⟩)]
theorem aop_congr {P : Program} {R R' : Operand → Option AV} (o : Op) (st : St) (h : ∀ x ∈ o.operands, R x = R' x) : aop P R o st = aop P R' o st := by
  cases o <;> simp only [Op.operands] at h <;> simp only [aop]
  case build t ps => rw [show buildA P t ps R = buildA P t ps R' by unfold buildA; rw [partsV_congr ps fun x hx => h x (by simpa using hx)]]
  case buildSlice t n ps => unfold buildSliceA; rw [partsV_congr ps fun x hx => h x (by simpa using hx)]
  case makeFunc fn a c =>
    rw [mapO_congr a.toList fun x hx => h x (by simp at hx ⊢; exact .inl hx), mapO_congr c.toList fun x hx => h x (by simp at hx ⊢; exact .inr hx)]
  case slice t x lo hi mx =>
    have hx : R x = R' x := h x (by simp)
    have hl : boundLo R lo = boundLo R' lo := by cases lo with
      | none => rfl
      | some y => simp only [boundLo, h y (by simp)]
    have hh : ∀ n, boundHi R hi n = boundHi R' hi n := fun n => by cases hi with
      | none => rfl
      | some y => simp only [boundHi, h y (by simp)]
    have hs : ∀ v, sliceA P t v R lo hi = sliceA P t v R' lo hi := fun v => by unfold sliceA; simp only [hl, hh]
    simp only [hx, hs]
  case call c =>
    cases hc : c.callee with
    | value f => rfl
    | invoke r m => rfl
    | builtin b =>
      have ha : ∀ x ∈ c.args.toList, R x = R' x := fun x hx => h x (by simp [Call.operands, hc]; simpa using hx)
      simp only
      unfold biA
      cases b <;> simp only
      case append =>
        unfold two
        split
        · rename_i x y e
          rw [ha x (by rw [e]; simp), ha y (by rw [e]; simp)]
        · rfl
      case len =>
        split
        · rename_i x e
          rw [ha x (by rw [e]; simp)]
        · rfl
      case max => rw [mapO_congr _ ha]
      case min => rw [mapO_congr _ ha]
  all_goals try rfl
  all_goals simp at h
  all_goals try (simp only [h]; done)
  all_goals (split <;> first | rfl | simp only [h])

end
end Go.Proofs.Ytmjnbdkjekdkgaa
