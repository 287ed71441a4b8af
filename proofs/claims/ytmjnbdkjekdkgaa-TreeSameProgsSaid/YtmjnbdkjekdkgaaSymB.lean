/-
  Calls with open arguments, by the reckoner: code, step by step.
-/
import Derived.Test.YtmjnbdkjekdkgaaSymA
namespace Go.Proofs.Ytmjnbdkjekdkgaa
open Go
set_option linter.unusedVariables false
set_option linter.unusedSimpArgs false

/-- A call comes to this. -/
def Ev (P : Program) (G : Env) (f : FuncId) (args : List AV) (st : St) (v : AV) (st' : St) : Prop := ∃ L n, callF P G L n f args st = some (v, st')
/-- Code comes to an end of which this holds. -/
def W (P : Program) (G : Env) (N : Nat) (c : Code) (Q : Ex → Tr AV → St → Prop) (T : Tr AV) (st : St) : Prop := ∃ L n x T' st', codeF P G (callF P G L n) N L c T st = some (x, T', st') ∧ Q x T' st'
def WR (P : Program) (G : Env) (N : Nat) (ops l : List Oper) (Q : Tr AV → St → Prop) (T : Tr AV) (st : St) : Prop := ∃ L n T' st', regS P G (callF P G L n) N ops l T st = some (T', st') ∧ Q T' st'
def WD (P : Program) (G : Env) (N : Nat) (ops : List Oper) (l : List (Nat × Oper × Nat)) (Q : Tr AV → St → Prop) (T : Tr AV) (st : St) (sn : List St) : Prop := ∃ L n T' st', regD P G (callF P G L n) N ops l T st sn = some (T', st') ∧ Q T' st'

def thenQ (k : Tr AV → St → Prop) (Q : Ex → Tr AV → St → Prop) : Ex → Tr AV → St → Prop
  | .nor => k
  | x => Q x
def blockQ (id : Nat) (Q : Ex → Tr AV → St → Prop) : Ex → Tr AV → St → Prop
  | .exit i => if i = id then Q .nor else Q (.exit i)
  | x => Q x

variable {P : Program} {G : Env} {N : Nat} {Q : Ex → Tr AV → St → Prop} {T : Tr AV} {st : St}

theorem code_more {L L' n n' : Nat} (hL : L ≤ L') (hn : n ≤ n') {c : Code} {T : Tr AV} {st : St} {r : Ex × Tr AV × St} (h : codeF P G (callF P G L n) N L c T st = some r) : codeF P G (callF P G L' n') N L' c T st = some r :=
  code_mono (callF_mono n n' L L' hn hL) hL c T st r h
theorem w_mono {c : Code} {Q' : Ex → Tr AV → St → Prop} (h : W P G N c Q T st) (hq : ∀ x T st, Q x T st → Q' x T st) : W P G N c Q' T st := by
  obtain ⟨L, n, x, T', st', h1, h2⟩ := h
  exact ⟨L, n, x, T', st', h1, hq _ _ _ h2⟩
theorem w_skip (h : Q .nor T st) : W P G N .skip Q T st := ⟨0, 0, _, _, _, rfl, h⟩
theorem w_label {l : Nat} (h : Q .nor T st) : W P G N (.label l) Q T st := ⟨0, 0, _, _, _, rfl, h⟩
theorem w_exit {id : Nat} (h : Q (.exit id) T st) : W P G N (.exit id) Q T st := ⟨0, 0, _, _, _, rfl, h⟩
theorem w_ret (h : Q .ret T st) : W P G N .ret Q T st := ⟨0, 0, _, _, _, rfl, h⟩
theorem w_seq {a b : Code} (h : W P G N a (thenQ (W P G N b Q) Q) T st) : W P G N (.seq a b) Q T st := by
  obtain ⟨L, n, x, T1, st1, h1, h2⟩ := h
  cases x with
  | nor =>
    obtain ⟨L', n', y, T2, st2, h3, h4⟩ := h2
    refine ⟨max L L', max n n', y, T2, st2, ?_, h4⟩
    show thenF (codeF P G _ N _ a T st) (codeF P G _ N _ b) = _
    rw [code_more (Nat.le_max_left L L') (Nat.le_max_left n n') h1]
    exact code_more (Nat.le_max_right L L') (Nat.le_max_right n n') h3
  | exit i => exact ⟨L, n, _, T1, st1, by show thenF (codeF P G _ N _ a T st) (codeF P G _ N _ b) = _; rw [h1]; rfl, h2⟩
  | ret => exact ⟨L, n, _, T1, st1, by show thenF (codeF P G _ N _ a T st) (codeF P G _ N _ b) = _; rw [h1]; rfl, h2⟩
theorem w_cond {g : Operand} {a b : Code} {t : Bool} (hg : opd G T g = some (.bool t)) (ha : t = true → W P G N a Q T st) (hb : t = false → W P G N b Q T st) : W P G N (.cond g a b) Q T st := by
  cases t with
  | true =>
    obtain ⟨L, n, x, T', st', h1, h2⟩ := ha rfl
    exact ⟨L, n, x, T', st', by show condF (opd G T g) _ _ = _; rw [hg]; exact h1, h2⟩
  | false =>
    obtain ⟨L, n, x, T', st', h1, h2⟩ := hb rfl
    exact ⟨L, n, x, T', st', by show condF (opd G T g) _ _ = _; rw [hg]; exact h1, h2⟩
theorem w_block {id : Nat} {c : Code} (h : W P G N c (blockQ id Q) T st) : W P G N (.block id c) Q T st := by
  obtain ⟨L, n, x, T', st', h1, h2⟩ := h
  have e : codeF P G (callF P G L n) N L (.block id c) T st = blockF id (codeF P G (callF P G L n) N L c T st) := rfl
  rw [h1] at e
  cases x with
  | nor => exact ⟨L, n, _, T', st', e, h2⟩
  | ret => exact ⟨L, n, _, T', st', e, h2⟩
  | exit i =>
    by_cases hi : i = id
    · subst hi
      have h2 : (if i = i then Q .nor else Q (.exit i)) T' st' := h2
      rw [if_pos rfl] at h2
      refine ⟨L, n, .nor, T', st', ?_, h2⟩
      rw [e]
      show bif' (Nat.beq i i) _ _ = _
      rw [Nat.beq_refl]
      rfl
    · have h2 : (if i = id then Q .nor else Q (.exit i)) T' st' := h2
      rw [if_neg hi] at h2
      refine ⟨L, n, .exit i, T', st', ?_, h2⟩
      rw [e]
      show bif' (Nat.beq i id) _ _ = _
      have : Nat.beq i id = false := by
        cases hb : Nat.beq i id with
        | false => rfl
        | true => exact absurd (Nat.eq_of_beq_eq_true hb) hi
      rw [this]
      rfl
theorem w_loop_once {c : Code} (h : W P G N c (thenQ (W P G N (.loop c) Q) Q) T st) : W P G N (.loop c) Q T st := by
  obtain ⟨L, n, x, T1, st1, h1, h2⟩ := h
  have e : ∀ L n, codeF P G (callF P G (L + 1) n) N (L + 1) (.loop c) T st = thenF (codeF P G (callF P G (L + 1) n) N (L + 1) c T st) (loopF L (codeF P G (callF P G (L + 1) n) N (L + 1) c)) := fun _ _ => rfl
  cases x with
  | nor =>
    obtain ⟨L', n', y, T2, st2, h3, h4⟩ := h2
    refine ⟨max L L' + 1, max n n', y, T2, st2, ?_, h4⟩
    rw [e, code_more (Nat.le_succ_of_le (Nat.le_max_left L L')) (Nat.le_max_left n n') h1]
    have h3 : loopF L' (codeF P G (callF P G L' n') N L' c) T1 st1 = some (y, T2, st2) := h3
    exact loopF_mono (fun T st r h => code_more (Nat.le_succ_of_le (Nat.le_max_right L L')) (Nat.le_max_right n n') h) L' (max L L') (Nat.le_max_right _ _) T1 st1 _ h3
  | exit i => exact ⟨L + 1, n, _, T1, st1, by rw [e, code_more (Nat.le_succ L) (Nat.le_refl n) h1]; rfl, h2⟩
  | ret => exact ⟨L + 1, n, _, T1, st1, by rw [e, code_more (Nat.le_succ L) (Nat.le_refl n) h1]; rfl, h2⟩
/-- A loop, by what holds at its head. -/
theorem w_loop {c : Code} (I : Nat → Tr AV → St → Prop) (hstep : ∀ n T st, I n T st → W P G N c (thenQ (fun T' st' => ∃ m, m < n ∧ I m T' st') Q) T st) : ∀ n T st, I n T st → W P G N (.loop c) Q T st := by
  intro n
  induction n using Nat.strongRecOn with
  | _ n ih =>
    intro T st h
    refine w_loop_once (w_mono (hstep n T st h) fun x T' st' hx => ?_)
    cases x with
    | nor =>
      obtain ⟨m, hm, hI⟩ := hx
      exact ih m hm T' st' hI
    | exit i => exact hx
    | ret => exact hx
theorem w_region {id : Nat} {ops : Array Oper} (h : WR P G N ops.toList ops.toList (Q .nor) T st) : W P G N (.region id ops false) Q T st := by
  obtain ⟨L, n, T', st', h1, h2⟩ := h
  refine ⟨L, n, .nor, T', st', ?_, h2⟩
  show (ob (regS P G _ N ops.toList ops.toList T st) fun r => some (Ex.nor, r)) = _
  rw [h1]
  rfl
theorem w_draw {id : Nat} {ops : Array Oper} {pl : List (Nat × Oper × Nat)} (hp : planOf P ops.toList = some pl) (h : WD P G N ops.toList pl (Q .nor) T st [st]) : W P G N (.region id ops true) Q T st := by
  obtain ⟨L, n, T', st', h1, h2⟩ := h
  refine ⟨L, n, .nor, T', st', ?_, h2⟩
  show (ob (planOf P ops.toList) fun pl => ob (regD P G _ N ops.toList pl T st [st]) fun r => some (Ex.nor, r)) = _
  rw [hp, ob_some, h1]
  rfl

/-! Operations. -/
/-- What is known of temporaries. -/
def KnT (K : List (Nat × AV)) (T : Tr AV) : Prop := ∀ t v, K.lookup t = some v → tget T t = v
theorem KnT.set {K : List (Nat × AV)} {T : Tr AV} (h : KnT K T) (d : Nat) (v : AV) : KnT ((d, v) :: K) (T.set d v) := by
  intro t u hl
  rw [tget_set]
  by_cases ht : t = d
  · subst ht
    rw [List.lookup_cons, beq_self_eq_true] at hl
    injection hl with hl
    rw [if_pos rfl, hl]
  · rw [List.lookup_cons, beq_false_of_ne ht] at hl
    rw [if_neg ht]
    exact h t u hl
theorem KnT.nil {T : Tr AV} : KnT [] T := fun t v h => (by cases h)
theorem KnT.cons {K : List (Nat × AV)} {T : Tr AV} {d : Nat} {v : AV} (hd : tget T d = v) (h : KnT K T) : KnT ((d, v) :: K) T := by
  intro t u hl
  by_cases ht : t = d
  · subst ht
    rw [List.lookup_cons, beq_self_eq_true] at hl
    injection hl with hl
    rw [← hl]; exact hd
  · rw [List.lookup_cons, beq_false_of_ne ht] at hl
    exact h t u hl
noncomputable def opK (G : Env) (K : List (Nat × AV)) (x : Operand) : Option AV := match x with
  | .tmp t => K.lookup t
  | .const v => ofConst v
  | .global g => need (G.g g) (some (.ptr g 0 0))
  | .func f => some (.fn f [] [])
theorem KnT.opd {K : List (Nat × AV)} {T : Tr AV} (h : KnT K T) {x : Operand} {v : AV} (hx : opK G K x = some v) : opd G T x = some v := by
  cases x with
  | tmp t => exact congrArg some (h t v hx)
  | const c => exact hx
  | global g => exact hx
  | func f => exact hx
theorem KnT.row {K : List (Nat × AV)} {T : Tr AV} (h : KnT K T) : ∀ (l : List Operand) (vs : List AV), mapO (opK G K) l = some vs → mapO (Proofs.Ytmjnbdkjekdkgaa.opd G T) l = some vs := by
  intro l
  induction l with
  | nil => intro vs hv; exact hv
  | cons x l ih =>
    intro vs hv
    rw [mapO_cons] at hv ⊢
    obtain ⟨b, hb, hv⟩ := ob_eq hv
    obtain ⟨t, ht, hv⟩ := ob_eq hv
    rw [h.opd hb, ob_some, ih t ht, ob_some]
    exact hv
/-- What an operation yields where that is known. -/
def OpS (P : Program) (G : Env) (K : List (Nat × AV)) (op : Op) (st : St) (v : AV) (st1 : St) : Prop := ∀ T, KnT K T → ∀ (d : Option Tmp) (ty : TypeId) (pos : String) (af : Array Edge) (g : Option (Nat × Bool)), ∃ L n, ∀ L' n', L ≤ L' → n ≤ n' → opF P (opd G T) (callF P G L' n') ⟨d, op, ty, pos, af, g⟩ st = some (v, st1)
section ops
variable {ops rest : List Oper} {K : List (Nat × AV)} {R : Tr AV → St → Prop}
theorem wr_nil (h : R T st) : WR P G N ops [] R T st := ⟨0, 0, T, st, rfl, h⟩
theorem wr_step {o : Oper} {v : AV} {st1 : St} (hw : wants ops o T = true) (h : ∃ L n, ∀ L' n', L ≤ L' → n ≤ n' → opF P (opd G T) (callF P G L' n') o st = some (v, st1)) (hd : ∀ d, o.dst = some d → d < N)
    (hn : WR P G N ops rest R (match o.dst with | some d => T.set d v | none => T) st1) : WR P G N ops (o :: rest) R T st := by
  obtain ⟨L, n, h⟩ := h
  obtain ⟨L', n', T', st', h1, h2⟩ := hn
  refine ⟨max L L', max n n', T', st', ?_, h2⟩
  show (ob (stepF P G _ ops o T st) fun r => putF N o.dst r.1 T fun T => tl (regS P G _ N ops rest T r.2)) = _
  have e : stepF P G (callF P G (max L L') (max n n')) ops o T st = some (v, st1) := by
    unfold stepF
    rw [hw, bif_true]
    exact h _ _ (Nat.le_max_left _ _) (Nat.le_max_left _ _)
  rw [e, ob_some]
  have h1' := regS_mono (callF_mono n' (max n n') L' (max L L') (Nat.le_max_right _ _) (Nat.le_max_right _ _)) _ _ _ _ h1
  cases hdst : o.dst with
  | none => rw [hdst] at h1'; exact h1'
  | some d =>
    rw [hdst] at h1'
    show need (Nat.ble (d + 1) N) (T.put d v _) = _
    rw [Nat.ble_eq_true_of_le (hd d hdst), Tr.put_eq]
    exact h1'
theorem wr_op {d : Nat} {op : Op} {ty : TypeId} {pos : String} {af : Array Edge} {v : AV} {st1 : St} (hK : KnT K T) (h : OpS P G K op st v st1) (hN : d < N) (hn : ∀ T', KnT ((d, v) :: K) T' → WR P G N ops rest R T' st1) :
    WR P G N ops (⟨some d, op, ty, pos, af, none⟩ :: rest) R T st :=
  wr_step rfl (h T hK _ _ _ _ _) (fun e he => by injection he with he; rw [← he]; exact hN) (hn _ (hK.set d v))
/-- An operation whose yield is not kept. -/
theorem wr_do {op : Op} {ty : TypeId} {pos : String} {af : Array Edge} {v : AV} {st1 : St} (hK : KnT K T) (h : OpS P G K op st v st1) (hn : WR P G N ops rest R T st1) :
    WR P G N ops (⟨none, op, ty, pos, af, none⟩ :: rest) R T st :=
  wr_step rfl (h T hK _ _ _ _ _) (fun e he => by cases he) hn
/-- A guarded one. -/
theorem wr_if {d j t : Nat} {op : Op} {ty : TypeId} {pos : String} {af : Array Edge} {b pol : Bool} (hK : KnT K T) (ht : dstOf ops j = some t) (hb : K.lookup t = some (.bool b)) (hN : d < N)
    (hy : b = pol → ∃ v st1, OpS P G K op st v st1 ∧ ∀ T', KnT ((d, v) :: K) T' → WR P G N ops rest R T' st1) (hn : b ≠ pol → ∀ T', KnT ((d, .tup []) :: K) T' → WR P G N ops rest R T' st) :
    WR P G N ops (⟨some d, op, ty, pos, af, some (j, pol)⟩ :: rest) R T st := by
  have hw : wants ops ⟨some d, op, ty, pos, af, some (j, pol)⟩ T = (b == pol) := by
    unfold wants
    simp only [ht]
    rw [show tget T t = .bool b from hK t _ hb]
    cases b <;> cases pol <;> rfl
  by_cases h : b = pol
  · obtain ⟨v, st1, h1, h2⟩ := hy h
    exact wr_step (by rw [hw, h]; cases pol <;> rfl) (h1 T hK _ _ _ _ _) (fun e he => by injection he with he; rw [← he]; exact hN) (h2 _ (hK.set d v))
  · obtain ⟨L', n', T', st', h1, h2⟩ := hn h _ (hK.set d (.tup []))
    refine ⟨L', n', T', st', ?_, h2⟩
    show (ob (stepF P G _ ops _ T st) fun r => putF N (some d) r.1 T fun T => tl (regS P G _ N ops rest T r.2)) = _
    unfold stepF
    rw [hw, show (b == pol) = false by cases b <;> cases pol <;> first | rfl | exact absurd rfl h, bif_false, ob_some]
    show need (Nat.ble (d + 1) N) (T.put d (.tup []) _) = _
    rw [Nat.ble_eq_true_of_le hN, Tr.put_eq]
    exact h1
end ops
end Go.Proofs.Ytmjnbdkjekdkgaa
