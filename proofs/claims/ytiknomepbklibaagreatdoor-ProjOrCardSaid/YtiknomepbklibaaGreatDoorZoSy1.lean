/-
  Several texts in one: XSymA, XSymB, XSymC, XSymD, XSymE, XSymF, XSymG.
-/
import Derived.Test.YtiknomepbklibaaGreatDoorZoEv3
section
/-
  Calls with open arguments, by the reckoner: more rounds and more depth change nothing.
-/
namespace Go.Proofs.YtiknomepbklibaaGreatDoor
open Go
set_option linter.unusedVariables false
set_option linter.unusedSimpArgs false

/-- What one finds the other finds too. -/
def CLe (c c' : CallF) : Prop := ∀ f args st r, c f args st = some r → c' f args st = some r
theorem ob_mono {α β : Type} {x : Option α} {k k' : α → Option β} {r : β} (h : ob x k = some r) (hk : ∀ a, x = some a → k a = some r → k' a = some r) : ob x k' = some r := by
 obtain ⟨a, ha, h⟩ := ob_eq h
 rw [ha]
 exact hk a ha h
theorem need_mono {β : Type} {b : Bool} {k k' : Option β} {r : β} (h : need b k = some r) (hk : k = some r → k' = some r) : need b k' = some r := by
 obtain ⟨hb, h⟩ := need_eq h
 subst hb
 exact hk h
variable {P : Program} {G : Env}
theorem opF_mono {R : Operand → Option AV} {c c' : CallF} (hc : CLe c c') {o : Oper} {st : St} {r : AV × St} (h : opF P R c o st = some r) : opF P R c' o st = some r := by
 obtain ⟨dst, op, ty, pos, af, g⟩ := o
 cases op with
 | call cl =>
  obtain ⟨callee, args, tys⟩ := cl
  cases callee with
  | value f =>
   have h : (ob (R f) fun v => (match v with
    | .fn fid a cap => ob (mapO R args.toList) fun l => c fid (appL a (appL l cap)) st
    | _ => none)) = some r := h
   show (ob (R f) fun v => (match v with
    | .fn fid a cap => ob (mapO R args.toList) fun l => c' fid (appL a (appL l cap)) st
    | _ => none)) = some r
   refine ob_mono h fun v _ h => ?_
   cases v with
   | fn fid a cap => exact ob_mono h fun l _ h => hc _ _ _ _ h
   | _ => cases h
  | invoke f name =>
   have h : (ob (R f) fun v => (match v with
    | .ifc t u => ob (methA P t name) fun fid => ob (mapO R args.toList) fun l => c fid (u :: l) st
    | _ => none)) = some r := h
   show (ob (R f) fun v => (match v with
    | .ifc t u => ob (methA P t name) fun fid => ob (mapO R args.toList) fun l => c' fid (u :: l) st
    | _ => none)) = some r
   refine ob_mono h fun v _ h => ?_
   cases v with
   | ifc t u => exact ob_mono h fun fid _ h => ob_mono h fun l _ h => hc _ _ _ _ h
   | _ => cases h
  | _ => exact h
 | _ => exact h
theorem stepF_mono {c c' : CallF} (hc : CLe c c') {ops : List Oper} {o : Oper} {T : Tr AV} {st : St} {r : AV × St} (h : stepF P G c ops o T st = some r) : stepF P G c' ops o T st = some r := by
 unfold stepF at h ⊢
 cases hw : wants ops o T with
 | true => rw [hw] at h; exact opF_mono hc h
 | false => rw [hw] at h; exact h
theorem putF_mono {β : Type} {N : Nat} {d : Option Nat} {v : AV} {T : Tr AV} {k k' : Tr AV → Option β} {r : β} (h : putF N d v T k = some r) (hk : ∀ T, k T = some r → k' T = some r) : putF N d v T k' = some r := by
 cases d with
 | none => exact hk _ h
 | some t =>
  have h : need (Nat.ble (t + 1) N) (T.put t v k) = some r := h
  show need (Nat.ble (t + 1) N) (T.put t v k') = some r
  refine need_mono h fun h => ?_
  rw [Tr.put_eq] at h ⊢
  exact hk _ h
theorem regS_mono {c c' : CallF} (hc : CLe c c') {N : Nat} {ops : List Oper} : ∀ (l : List Oper) (T : Tr AV) (st : St) (r : Tr AV × St), regS P G c N ops l T st = some r → regS P G c' N ops l T st = some r := by
 intro l
 induction l with
 | nil => intro T st r h; exact h
 | cons o l ih =>
  intro T st r h
  have h : (ob (stepF P G c ops o T st) fun r => putF N o.dst r.1 T fun T => tl (regS P G c N ops l T r.2)) = some r := h
  show (ob (stepF P G c' ops o T st) fun r => putF N o.dst r.1 T fun T => tl (regS P G c' N ops l T r.2)) = some r
  obtain ⟨a, ha, h⟩ := ob_eq h
  rw [stepF_mono hc ha, ob_some]
  exact putF_mono h fun T h => ih T a.2 r h
theorem regD_mono {c c' : CallF} (hc : CLe c c') {N : Nat} {ops : List Oper} : ∀ (l : List (Nat × Oper × Nat)) (T : Tr AV) (st : St) (sn : List St) (r : Tr AV × St), regD P G c N ops l T st sn = some r → regD P G c' N ops l T st sn = some r := by
 intro l
 induction l with
 | nil => intro T st sn r h; exact h
 | cons q l ih =>
  intro T st sn r h
  have h : (ob (stepF P G c ops q.2.1 T st) fun r => need (bif' (wants ops q.2.1 T) (again P G q.2.1 T r.1 q.2.2 (List.rec [] (fun _ t _ => t) sn)) true)
   (putF N q.2.1.dst r.1 T fun T => tl (regD P G c N ops l T r.2 (bif' (Nat.beq (kindA P q.2.1.op) 3) (r.2 :: sn) sn)))) = some r := h
  show (ob (stepF P G c' ops q.2.1 T st) fun r => need (bif' (wants ops q.2.1 T) (again P G q.2.1 T r.1 q.2.2 (List.rec [] (fun _ t _ => t) sn)) true)
   (putF N q.2.1.dst r.1 T fun T => tl (regD P G c' N ops l T r.2 (bif' (Nat.beq (kindA P q.2.1.op) 3) (r.2 :: sn) sn)))) = some r
  obtain ⟨a, ha, h⟩ := ob_eq h
  rw [stepF_mono hc ha, ob_some]
  refine need_mono h fun h => putF_mono h fun T h => ih T a.2 _ r h
theorem loopF_mono {f f' : Tr AV → St → Option (Ex × Tr AV × St)} (hf : ∀ T st r, f T st = some r → f' T st = some r) : ∀ (L L' : Nat), L ≤ L' → ∀ T st r, loopF L f T st = some r → loopF L' f' T st = some r := by
 intro L
 induction L with
 | zero => intro L' _ T st r h; cases h
 | succ L ih =>
  intro L' hL T st r h
  obtain ⟨M, rfl⟩ : ∃ M, L' = M + 1 := ⟨L' - 1, by omega⟩
  have h : thenF (f T st) (loopF L f) = some r := h
  show thenF (f' T st) (loopF M f') = some r
  rcases thenF_eq h with ⟨T1, st1, h1, h2⟩ | ⟨h1, h2⟩
  ·rw [hf _ _ _ h1]; exact ih M (by omega) _ _ _ h2
  ·rw [hf _ _ _ h1]
   obtain ⟨e, T, st⟩ := r
   cases e with
   | nor => exact absurd rfl h2
   | exit i => rfl
   | ret => rfl
theorem backF_mono {N : Nat} {ts te : TypeId} {cap : AV} {ps : List Tmp} {fa fb fa' fb' : Tr AV → St → Option (Ex × Tr AV × St)} (ha : ∀ T st r, fa T st = some r → fa' T st = some r) (hb : ∀ T st r, fb T st = some r → fb' T st = some r) {T : Tr AV} :
  ∀ (n : Nat) (st : St) (r : Ex × Tr AV × St), backF P N ts te cap ps fa fb T n st = some r → backF P N ts te cap ps fa' fb' T n st = some r := by
 intro n
 induction n with
 | zero => intro st r h; exact h
 | succ n ih =>
  intro st r h
  have h : (ob (loadA P ts cap st.h.get) fun s => ob (indexAddrA P ts s (.int .i64 (Int.ofNat n))) fun q => ob (loadA P te q st.h.get) fun v =>
   back1 N ps (.int .i64 (Int.ofNat n)) v T fun T1 => ob (fa T1 st) fun r => Ex.rec (ob (fb r.2.1 r.2.2) fun q => Ex.rec (tl (backF P N ts te cap ps fa fb T n q.2.2)) (fun id => some (.exit id, T, q.2.2)) (some (.ret, T, q.2.2)) q.1) (fun _ => none) none r.1) = some r := h
  show (ob (loadA P ts cap st.h.get) fun s => ob (indexAddrA P ts s (.int .i64 (Int.ofNat n))) fun q => ob (loadA P te q st.h.get) fun v =>
   back1 N ps (.int .i64 (Int.ofNat n)) v T fun T1 => ob (fa' T1 st) fun r => Ex.rec (ob (fb' r.2.1 r.2.2) fun q => Ex.rec (tl (backF P N ts te cap ps fa' fb' T n q.2.2)) (fun id => some (.exit id, T, q.2.2)) (some (.ret, T, q.2.2)) q.1) (fun _ => none) none r.1) = some r
  refine ob_mono h fun s _ h => ob_mono h fun q _ h => ob_mono h fun v _ h => ?_
  unfold back1 at h ⊢
  split at h
  ·refine putF_mono h fun T h => putF_mono h fun T h => ?_
   obtain ⟨⟨e1, T2, st2⟩, h1, h⟩ := ob_eq h
   rw [ha _ _ _ h1, ob_some]
   cases e1 with
   | exit i => cases h
   | ret => cases h
   | nor =>
    obtain ⟨⟨e, T3, st3⟩, h2, h⟩ := ob_eq h
    show (ob (fb' T2 st2) _) = _
    rw [hb _ _ _ h2, ob_some]
    cases e with
    | nor => exact ih _ _ h
    | exit i => exact h
    | ret => exact h
  ·cases h
theorem code_mono {c c' : CallF} (hc : CLe c c') {N L L' : Nat} (hL : L ≤ L') : ∀ (k : Code) (T : Tr AV) (st : St) (r : Ex × Tr AV × St), codeF P G c N L k T st = some r → codeF P G c' N L' k T st = some r := by
 intro k
 induction k with
 | region id ops draw =>
  intro T st r h
  cases draw with
  | true =>
   have h : (ob (planOf P ops.toList) fun pl => ob (regD P G c N ops.toList pl T st [st]) fun r => some (Ex.nor, r)) = some r := h
   show (ob (planOf P ops.toList) fun pl => ob (regD P G c' N ops.toList pl T st [st]) fun r => some (Ex.nor, r)) = some r
   refine ob_mono h fun pl _ h => ?_
   obtain ⟨a, ha, h⟩ := ob_eq h
   rw [regD_mono hc _ _ _ _ _ ha]
   exact h
  | false =>
   have h : (ob (regS P G c N ops.toList ops.toList T st) fun r => some (Ex.nor, r)) = some r := h
   show (ob (regS P G c' N ops.toList ops.toList T st) fun r => some (Ex.nor, r)) = some r
   obtain ⟨a, ha, h⟩ := ob_eq h
   rw [regS_mono hc _ _ _ _ ha]
   exact h
 | seq x y ihx ihy =>
  intro T st r h
  have h : thenF (codeF P G c N L x T st) (codeF P G c N L y) = some r := h
  show thenF (codeF P G c' N L' x T st) (codeF P G c' N L' y) = some r
  rcases thenF_eq h with ⟨T1, st1, h1, h2⟩ | ⟨h1, h2⟩
  ·rw [ihx _ _ _ h1]; exact ihy _ _ _ h2
  ·rw [ihx _ _ _ h1]
   obtain ⟨e, T, st⟩ := r
   cases e with
   | nor => exact absurd rfl h2
   | exit i => rfl
   | ret => rfl
 | cond g x y ihx ihy =>
  intro T st r h
  have h : condF (opd G T g) (tl (codeF P G c N L x T st)) (tl (codeF P G c N L y T st)) = some r := h
  show condF (opd G T g) (tl (codeF P G c' N L' x T st)) (tl (codeF P G c' N L' y T st)) = some r
  refine ob_mono h fun v _ h => ?_
  cases v with
  | bool b =>
   cases b with
   | true => exact ihx _ _ _ h
   | false => exact ihy _ _ _ h
  | _ => cases h
 | block id x ih =>
  intro T st r h
  have h : blockF id (codeF P G c N L x T st) = some r := h
  show blockF id (codeF P G c' N L' x T st) = some r
  obtain ⟨a, ha, h⟩ := ob_eq h
  rw [ih _ _ _ ha]
  exact h
 | loop x ih => intro T st r h; exact loopF_mono ih L L' hL T st r h
 | rangeFunc g ps a b iha ihb =>
  intro T st r h
  have h : rangeF P G N g ps.toList (bif' (plainC a) (plainC b) false) (codeF P G c N L a) (codeF P G c N L b) T st = some r := h
  show rangeF P G N g ps.toList (bif' (plainC a) (plainC b) false) (codeF P G c' N L' a) (codeF P G c' N L' b) T st = some r
  unfold rangeF at h ⊢
  refine need_mono h fun h => ob_mono h fun v _ h => ?_
  split at h
  ·refine ob_mono h fun q _ h => ?_
   split at h
   ·split at h
    ·refine ob_mono h fun s _ h => ob_mono h fun n _ h => ?_
     split at h
     ·exact ob_mono h fun n _ h => need_mono h fun h => backF_mono iha ihb _ _ _ h
     ·cases h
    ·cases h
   ·cases h
  ·cases h
 | _ => intro T st r h; exact h
/-- Arguments are the first temporaries, whatever follows. -/
theorem argsF_uni : ∀ (l : List AV) (i : Nat) (T : Tr AV), (∀ t, i ≤ t → tget T t = .tup []) → ∃ T', (∀ (β : Type) (k : Tr AV → β), List.rec (motive := fun _ => Nat → Tr AV → β) (fun (_ : Nat) T => k T) (fun v _ ih i T => T.put i v (ih (i + 1))) l i T = k T') ∧
    ∀ t, tget T' t = if t < i then tget T t else (l[t - i]?).getD (.tup []) := by
  intro l
  induction l with
  | nil =>
    intro i T hT
    refine ⟨T, fun _ _ => rfl, fun t => ?_⟩
    by_cases h : t < i
    · rw [if_pos h]
    · rw [if_neg h, hT t (by omega)]; simp
  | cons v l ih =>
    intro i T hT
    obtain ⟨T', h1, h2⟩ := ih (i + 1) (T.set i v) fun t ht => by rw [tget_set, if_neg (by omega)]; exact hT t (by omega)
    refine ⟨T', fun β k => ?_, fun t => ?_⟩
    · show T.put i v _ = _
      rw [Tr.put_eq]
      exact h1 β k
    · rw [h2, tget_set]
      by_cases h : t < i
      · rw [if_pos (by omega), if_neg (by omega), if_pos h]
      · rw [if_neg h]
        by_cases h3 : t = i
        · subst h3; rw [if_pos (by omega), if_pos rfl]; simp
        · rw [if_neg (by omega), show t - i = (t - (i + 1)) + 1 by omega]; simp
theorem argsF_all (l : List AV) : ∃ T, (∀ (β : Type) (k : Tr AV → β), argsF l k = k T) ∧ ∀ t, tget T t = (l[t]?).getD (.tup []) := by
 obtain ⟨T, h1, h2⟩ := argsF_uni l 0 .nil fun t _ => rfl
 exact ⟨T, h1, fun t => by rw [h2, if_neg (by omega), Nat.sub_zero]⟩
theorem callF_mono : ∀ (n m L L' : Nat), n ≤ m → L ≤ L' → CLe (callF P G L n) (callF P G L' m) := by
 intro n
 induction n with
 | zero => intro m L L' _ _ f args st r h; cases h
 | succ n ih =>
  intro m L L' hnm hL f args st r h
  obtain ⟨k, rfl⟩ : ∃ k, m = k + 1 := ⟨m - 1, by omega⟩
  have h : (Option.rec (ob (fnOf P f) fun q => need (Nat.ble (lenL args) q.2.1) (argsF args fun T => endF (codeF P G (callF P G L n) q.2.1 L q.1 T st) fun T st => ob (resultsF P q.2.2 T st) fun v => some (v, st))) (fun sm => sm args st) (G.s f) : Option (AV × St)) = some r := h
  show (Option.rec (ob (fnOf P f) fun q => need (Nat.ble (lenL args) q.2.1) (argsF args fun T => endF (codeF P G (callF P G L' k) q.2.1 L' q.1 T st) fun T st => ob (resultsF P q.2.2 T st) fun v => some (v, st))) (fun sm => sm args st) (G.s f) : Option (AV × St)) = some r
  cases hs : G.s f with
  | some sm => rw [hs] at h; exact h
  | none =>
   rw [hs] at h
   refine ob_mono h fun q _ h => need_mono h fun h => ?_
   obtain ⟨T, h1, _⟩ := argsF_all args
   rw [h1] at h ⊢
   obtain ⟨⟨e, T2, st2⟩, hc, h⟩ := ob_eq h
   have hc' := code_mono (ih k L L' (by omega) hL) hL q.1 T st _ hc
   show endF (codeF P G (callF P G L' k) q.2.1 L' q.1 T st) _ = _
   rw [hc']
   exact h

end Go.Proofs.YtiknomepbklibaaGreatDoor
end

section
/-
  Calls with open arguments, by the reckoner: code, step by step.
-/
namespace Go.Proofs.YtiknomepbklibaaGreatDoor
open Go
set_option linter.unusedVariables false
set_option linter.unusedSimpArgs false

/-- A call comes to this. -/
def Ev (P : Program) (G : Env) (f : FuncId) (args : List AV) (st : St) (v : AV) (st' : St) : Prop := ∃ L n, callF P G L n f args st = some (v, st')
/-- Code comes to an end of which this holds. -/
def W (P : Program) (G : Env) (N : Nat) (c : Code) (Q : Ex → Tr AV → St → Prop) (T : Tr AV) (st : St) : Prop := ∃ L n x T' st', codeF P G (callF P G L n) N L c T st = some (x, T', st') ∧ Q x T' st'
def WR (P : Program) (G : Env) (N : Nat) (ops l : List Oper) (Q : Tr AV → St → Prop) (T : Tr AV) (st : St) : Prop := ∃ L n T' st', regS P G (callF P G L n) N ops l T st = some (T', st') ∧ Q T' st'
def WD (P : Program) (G : Env) (N : Nat) (ops : List Oper) (l : List (Nat × Oper × Nat)) (Q : Tr AV → St → Prop) (T : Tr AV) (st : St) (sn : List St) : Prop := ∃ L n T' st', regD P G (callF P G L n) N ops l T st sn = some (T', st') ∧ Q T' st'

def thenQ (k : Tr AV → St → Prop) (Q : Ex → Tr AV → St → Prop) : Ex → Tr AV → St → Prop
 | .nor => k
 | x => Q x
def blockQ (id : Nat) (Q : Ex → Tr AV → St → Prop) : Ex → Tr AV → St → Prop
 | .exit i => if i = id then Q .nor else Q (.exit i)
 | x => Q x

variable {P : Program} {G : Env} {N : Nat} {Q : Ex → Tr AV → St → Prop} {T : Tr AV} {st : St}

theorem code_more {L L' n n' : Nat} (hL : L ≤ L') (hn : n ≤ n') {c : Code} {T : Tr AV} {st : St} {r : Ex × Tr AV × St} (h : codeF P G (callF P G L n) N L c T st = some r) : codeF P G (callF P G L' n') N L' c T st = some r :=
 code_mono (callF_mono n n' L L' hn hL) hL c T st r h
theorem w_mono {c : Code} {Q' : Ex → Tr AV → St → Prop} (h : W P G N c Q T st) (hq : ∀ x T st, Q x T st → Q' x T st) : W P G N c Q' T st := by
 obtain ⟨L, n, x, T', st', h1, h2⟩ := h
 exact ⟨L, n, x, T', st', h1, hq _ _ _ h2⟩
theorem w_skip (h : Q .nor T st) : W P G N .skip Q T st := ⟨0, 0, _, _, _, rfl, h⟩
theorem w_exit {id : Nat} (h : Q (.exit id) T st) : W P G N (.exit id) Q T st := ⟨0, 0, _, _, _, rfl, h⟩
theorem w_ret (h : Q .ret T st) : W P G N .ret Q T st := ⟨0, 0, _, _, _, rfl, h⟩
theorem w_seq {a b : Code} (h : W P G N a (thenQ (W P G N b Q) Q) T st) : W P G N (.seq a b) Q T st := by
 obtain ⟨L, n, x, T1, st1, h1, h2⟩ := h
 cases x with
 | nor =>
  obtain ⟨L', n', y, T2, st2, h3, h4⟩ := h2
  refine ⟨max L L', max n n', y, T2, st2, ?_, h4⟩
  show thenF (codeF P G _ N _ a T st) (codeF P G _ N _ b) = _
  rw [code_more (Nat.le_max_left L L') (Nat.le_max_left n n') h1]
  exact code_more (Nat.le_max_right L L') (Nat.le_max_right n n') h3
 | exit i => exact ⟨L, n, _, T1, st1, by show thenF (codeF P G _ N _ a T st) (codeF P G _ N _ b) = _; rw [h1]; rfl, h2⟩
 | ret => exact ⟨L, n, _, T1, st1, by show thenF (codeF P G _ N _ a T st) (codeF P G _ N _ b) = _; rw [h1]; rfl, h2⟩
theorem w_cond {g : Operand} {a b : Code} {t : Bool} (hg : opd G T g = some (.bool t)) (ha : t = true → W P G N a Q T st) (hb : t = false → W P G N b Q T st) : W P G N (.cond g a b) Q T st := by
 cases t with
 | true =>
  obtain ⟨L, n, x, T', st', h1, h2⟩ := ha rfl
  exact ⟨L, n, x, T', st', by show condF (opd G T g) _ _ = _; rw [hg]; exact h1, h2⟩
 | false =>
  obtain ⟨L, n, x, T', st', h1, h2⟩ := hb rfl
  exact ⟨L, n, x, T', st', by show condF (opd G T g) _ _ = _; rw [hg]; exact h1, h2⟩
theorem w_block {id : Nat} {c : Code} (h : W P G N c (blockQ id Q) T st) : W P G N (.block id c) Q T st := by
 obtain ⟨L, n, x, T', st', h1, h2⟩ := h
 have e : codeF P G (callF P G L n) N L (.block id c) T st = blockF id (codeF P G (callF P G L n) N L c T st) := rfl
 rw [h1] at e
 cases x with
 | nor => exact ⟨L, n, _, T', st', e, h2⟩
 | ret => exact ⟨L, n, _, T', st', e, h2⟩
 | exit i =>
  by_cases hi : i = id
  ·subst hi
   have h2 : (if i = i then Q .nor else Q (.exit i)) T' st' := h2
   rw [if_pos rfl] at h2
   refine ⟨L, n, .nor, T', st', ?_, h2⟩
   rw [e]
   show bif' (Nat.beq i i) _ _ = _
   rw [Nat.beq_refl]
   rfl
  ·have h2 : (if i = id then Q .nor else Q (.exit i)) T' st' := h2
   rw [if_neg hi] at h2
   refine ⟨L, n, .exit i, T', st', ?_, h2⟩
   rw [e]
   show bif' (Nat.beq i id) _ _ = _
   have : Nat.beq i id = false := by
    cases hb : Nat.beq i id with
    | false => rfl
    | true => exact absurd (Nat.eq_of_beq_eq_true hb) hi
   rw [this]
   rfl
theorem w_loop_once {c : Code} (h : W P G N c (thenQ (W P G N (.loop c) Q) Q) T st) : W P G N (.loop c) Q T st := by
 obtain ⟨L, n, x, T1, st1, h1, h2⟩ := h
 have e : ∀ L n, codeF P G (callF P G (L + 1) n) N (L + 1) (.loop c) T st = thenF (codeF P G (callF P G (L + 1) n) N (L + 1) c T st) (loopF L (codeF P G (callF P G (L + 1) n) N (L + 1) c)) := fun _ _ => rfl
 cases x with
 | nor =>
  obtain ⟨L', n', y, T2, st2, h3, h4⟩ := h2
  refine ⟨max L L' + 1, max n n', y, T2, st2, ?_, h4⟩
  rw [e, code_more (Nat.le_succ_of_le (Nat.le_max_left L L')) (Nat.le_max_left n n') h1]
  have h3 : loopF L' (codeF P G (callF P G L' n') N L' c) T1 st1 = some (y, T2, st2) := h3
  exact loopF_mono (fun T st r h => code_more (Nat.le_succ_of_le (Nat.le_max_right L L')) (Nat.le_max_right n n') h) L' (max L L') (Nat.le_max_right _ _) T1 st1 _ h3
 | exit i => exact ⟨L + 1, n, _, T1, st1, by rw [e, code_more (Nat.le_succ L) (Nat.le_refl n) h1]; rfl, h2⟩
 | ret => exact ⟨L + 1, n, _, T1, st1, by rw [e, code_more (Nat.le_succ L) (Nat.le_refl n) h1]; rfl, h2⟩
/-- A loop, by what holds at its head. -/
theorem w_loop {c : Code} (I : Nat → Tr AV → St → Prop) (hstep : ∀ n T st, I n T st → W P G N c (thenQ (fun T' st' => ∃ m, m < n ∧ I m T' st') Q) T st) : ∀ n T st, I n T st → W P G N (.loop c) Q T st := by
  intro n
  induction n using Nat.strongRecOn with
  | _ n ih =>
    intro T st h
    refine w_loop_once (w_mono (hstep n T st h) fun x T' st' hx => ?_)
    cases x with
    | nor =>
      obtain ⟨m, hm, hI⟩ := hx
      exact ih m hm T' st' hI
    | exit i => exact hx
    | ret => exact hx
theorem w_region {id : Nat} {ops : Array Oper} (h : WR P G N ops.toList ops.toList (Q .nor) T st) : W P G N (.region id ops false) Q T st := by
 obtain ⟨L, n, T', st', h1, h2⟩ := h
 refine ⟨L, n, .nor, T', st', ?_, h2⟩
 show (ob (regS P G _ N ops.toList ops.toList T st) fun r => some (Ex.nor, r)) = _
 rw [h1]
 rfl
theorem w_draw {id : Nat} {ops : Array Oper} {pl : List (Nat × Oper × Nat)} (hp : planOf P ops.toList = some pl) (h : WD P G N ops.toList pl (Q .nor) T st [st]) : W P G N (.region id ops true) Q T st := by
 obtain ⟨L, n, T', st', h1, h2⟩ := h
 refine ⟨L, n, .nor, T', st', ?_, h2⟩
 show (ob (planOf P ops.toList) fun pl => ob (regD P G _ N ops.toList pl T st [st]) fun r => some (Ex.nor, r)) = _
 rw [hp, ob_some, h1]
 rfl

/-! Operations. -/
/-- What is known of temporaries. -/
def KnT (K : List (Nat × AV)) (T : Tr AV) : Prop := ∀ t v, K.lookup t = some v → tget T t = v
theorem KnT.set {K : List (Nat × AV)} {T : Tr AV} (h : KnT K T) (d : Nat) (v : AV) : KnT ((d, v) :: K) (T.set d v) := by
 intro t u hl
 rw [tget_set]
 by_cases ht : t = d
 ·subst ht
  rw [List.lookup_cons, beq_self_eq_true] at hl
  injection hl with hl
  rw [if_pos rfl, hl]
 ·rw [List.lookup_cons, beq_false_of_ne ht] at hl
  rw [if_neg ht]
  exact h t u hl
theorem KnT.nil {T : Tr AV} : KnT [] T := fun t v h => (by cases h)
theorem KnT.cons {K : List (Nat × AV)} {T : Tr AV} {d : Nat} {v : AV} (hd : tget T d = v) (h : KnT K T) : KnT ((d, v) :: K) T := by
 intro t u hl
 by_cases ht : t = d
 ·subst ht
  rw [List.lookup_cons, beq_self_eq_true] at hl
  injection hl with hl
  rw [← hl]; exact hd
 ·rw [List.lookup_cons, beq_false_of_ne ht] at hl
  exact h t u hl
noncomputable def opK (G : Env) (K : List (Nat × AV)) (x : Operand) : Option AV := match x with
 | .tmp t => K.lookup t
 | .const v => ofConst v
 | .global g => need (G.g g) (some (.ptr g 0 0))
 | .func f => some (.fn f [] [])
theorem KnT.opd {K : List (Nat × AV)} {T : Tr AV} (h : KnT K T) {x : Operand} {v : AV} (hx : opK G K x = some v) : opd G T x = some v := by
 cases x with
 | tmp t => exact congrArg some (h t v hx)
 | const c => exact hx
 | global g => exact hx
 | func f => exact hx
theorem KnT.row {K : List (Nat × AV)} {T : Tr AV} (h : KnT K T) : ∀ (l : List Operand) (vs : List AV), mapO (opK G K) l = some vs → mapO (Proofs.YtiknomepbklibaaGreatDoor.opd G T) l = some vs := by
 intro l
 induction l with
 | nil => intro vs hv; exact hv
 | cons x l ih =>
  intro vs hv
  rw [mapO_cons] at hv ⊢
  obtain ⟨b, hb, hv⟩ := ob_eq hv
  obtain ⟨t, ht, hv⟩ := ob_eq hv
  rw [h.opd hb, ob_some, ih t ht, ob_some]
  exact hv
/-- What an operation yields where that is known. -/
def OpS (P : Program) (G : Env) (K : List (Nat × AV)) (op : Op) (st : St) (v : AV) (st1 : St) : Prop := ∀ T, KnT K T → ∀ (d : Option Tmp) (ty : TypeId) (pos : String) (af : Array Edge) (g : Option (Nat × Bool)), ∃ L n, ∀ L' n', L ≤ L' → n ≤ n' → opF P (opd G T) (callF P G L' n') ⟨d, op, ty, pos, af, g⟩ st = some (v, st1)
section ops
variable {ops rest : List Oper} {K : List (Nat × AV)} {R : Tr AV → St → Prop}
theorem wr_nil (h : R T st) : WR P G N ops [] R T st := ⟨0, 0, T, st, rfl, h⟩
theorem wr_step {o : Oper} {v : AV} {st1 : St} (hw : wants ops o T = true) (h : ∃ L n, ∀ L' n', L ≤ L' → n ≤ n' → opF P (opd G T) (callF P G L' n') o st = some (v, st1)) (hd : ∀ d, o.dst = some d → d < N)
  (hn : WR P G N ops rest R (match o.dst with | some d => T.set d v | none => T) st1) : WR P G N ops (o :: rest) R T st := by
 obtain ⟨L, n, h⟩ := h
 obtain ⟨L', n', T', st', h1, h2⟩ := hn
 refine ⟨max L L', max n n', T', st', ?_, h2⟩
 show (ob (stepF P G _ ops o T st) fun r => putF N o.dst r.1 T fun T => tl (regS P G _ N ops rest T r.2)) = _
 have e : stepF P G (callF P G (max L L') (max n n')) ops o T st = some (v, st1) := by
  unfold stepF
  rw [hw, bif_true]
  exact h _ _ (Nat.le_max_left _ _) (Nat.le_max_left _ _)
 rw [e, ob_some]
 have h1' := regS_mono (callF_mono n' (max n n') L' (max L L') (Nat.le_max_right _ _) (Nat.le_max_right _ _)) _ _ _ _ h1
 cases hdst : o.dst with
 | none => rw [hdst] at h1'; exact h1'
 | some d =>
  rw [hdst] at h1'
  show need (Nat.ble (d + 1) N) (T.put d v _) = _
  rw [Nat.ble_eq_true_of_le (hd d hdst), Tr.put_eq]
  exact h1'
theorem wr_op {d : Nat} {op : Op} {ty : TypeId} {pos : String} {af : Array Edge} {v : AV} {st1 : St} (hK : KnT K T) (h : OpS P G K op st v st1) (hN : d < N) (hn : ∀ T', KnT ((d, v) :: K) T' → WR P G N ops rest R T' st1) :
  WR P G N ops (⟨some d, op, ty, pos, af, none⟩ :: rest) R T st :=
 wr_step rfl (h T hK _ _ _ _ _) (fun e he => by injection he with he; rw [← he]; exact hN) (hn _ (hK.set d v))
/-- An operation whose yield is not kept. -/
theorem wr_do {op : Op} {ty : TypeId} {pos : String} {af : Array Edge} {v : AV} {st1 : St} (hK : KnT K T) (h : OpS P G K op st v st1) (hn : WR P G N ops rest R T st1) :
    WR P G N ops (⟨none, op, ty, pos, af, none⟩ :: rest) R T st :=
  wr_step rfl (h T hK _ _ _ _ _) (fun e he => by cases he) hn
end ops
end Go.Proofs.YtiknomepbklibaaGreatDoor
end

section
/-
  Calls with open arguments, by the reckoner: what each operation yields.
-/
namespace Go.Proofs.YtiknomepbklibaaGreatDoor
open Go
set_option linter.unusedVariables false
set_option linter.unusedSimpArgs false

variable {P : Program} {G : Env} {K : List (Nat × AV)} {st : St}
theorem OpS.of {op : Op} {v : AV} {st1 : St} (h : ∀ T, KnT K T → ∀ (c : CallF) (d : Option Tmp) (ty : TypeId) (pos : String) (af : Array Edge) (g : Option (Nat × Bool)), opF P (opd G T) c ⟨d, op, ty, pos, af, g⟩ st = some (v, st1)) : OpS P G K op st v st1 :=
 fun T hT d ty pos af g => ⟨0, 0, fun _ _ _ _ => h T hT _ d ty pos af g⟩
theorem os_move {x : Operand} {v : AV} (hx : opK G K x = some v) : OpS P G K (.move x) st v st := .of fun T hT c d ty pos af g => by
 show ret (opd G T x) st = _
 rw [hT.opd hx]; rfl
theorem os_assign {x : Operand} {v : AV} (hx : opK G K x = some v) : OpS P G K (.assign x) st v st := .of fun T hT c d ty pos af g => by
 show ret (opd G T x) st = _
 rw [hT.opd hx]; rfl
theorem os_pick {x a b : Operand} {t : Bool} {u v : AV} (hx : opK G K x = some (.bool t)) (ha : opK G K a = some u) (hb : opK G K b = some v) : OpS P G K (.pick x a b) st (bif' t u v) st := .of fun T hT c d ty pos af g => by
 show (ob (opd G T x) fun c => (match c with
  | .bool t => ret (bif' t (opd G T a) (opd G T b)) st
  | _ => none)) = _
 rw [hT.opd hx, ob_some]
 show ret (bif' t (opd G T a) (opd G T b)) st = _
 rw [hT.opd ha, hT.opd hb]
 cases t <;> rfl
theorem os_bin {op : BinOp} {t yt : TypeId} {x y : Operand} {u w v : AV} (hx : opK G K x = some u) (hy : opK G K y = some w) (h : b2 P op t u w = some v) : OpS P G K (.binOp op t x y yt) st v st := .of fun T hT c d ty pos af g => by
 show ret (ob (opd G T x) fun x => ob (opd G T y) fun y => b2 P op t x y) st = _
 rw [hT.opd hx, hT.opd hy, ob_some, ob_some, h]; rfl
theorem eqK_self (k : IntKind) : eqK k k = true := decide_eq_true rfl
theorem b2_int {op : BinOp} {t : TypeId} {k : IntKind} {a b : Int} (h1 : op ≠ .shl) (h2 : op ≠ .shr) : b2 P op t (.int k a) (.int k b) = b2i op k a b := by
 cases op <;> first
  | exact absurd rfl h1
  | exact absurd rfl h2
  | (show need (eqK k k) _ = _; rw [eqK_self]; rfl)
theorem os_lss {t yt : TypeId} {x y : Operand} {k : IntKind} {a b : Int} (hx : opK G K x = some (.int k a)) (hy : opK G K y = some (.int k b)) : OpS P G K (.binOp .lss t x y yt) st (.bool (decide (a < b))) st :=
 os_bin hx hy (by rw [b2_int (by decide) (by decide)]; show some (AV.bool (ltI a b)) = _; rw [ltI_eq])
theorem os_gtr {t yt : TypeId} {x y : Operand} {k : IntKind} {a b : Int} (hx : opK G K x = some (.int k a)) (hy : opK G K y = some (.int k b)) : OpS P G K (.binOp .gtr t x y yt) st (.bool (decide (b < a))) st :=
 os_bin hx hy (by rw [b2_int (by decide) (by decide)]; show some (AV.bool (ltI b a)) = _; rw [ltI_eq])
theorem not_lt_dec (a b : Int) : (!decide (a < b)) = decide (b ≤ a) := by
 by_cases h : a < b
 ·rw [decide_eq_true h, decide_eq_false (by omega)]; rfl
 ·rw [decide_eq_false h, decide_eq_true (by omega)]; rfl
theorem os_leq {t yt : TypeId} {x y : Operand} {k : IntKind} {a b : Int} (hx : opK G K x = some (.int k a)) (hy : opK G K y = some (.int k b)) : OpS P G K (.binOp .leq t x y yt) st (.bool (decide (a ≤ b))) st :=
 os_bin hx hy (by rw [b2_int (by decide) (by decide)]; show some (AV.bool (!ltI b a)) = _; rw [ltI_eq, not_lt_dec])
theorem os_geq {t yt : TypeId} {x y : Operand} {k : IntKind} {a b : Int} (hx : opK G K x = some (.int k a)) (hy : opK G K y = some (.int k b)) : OpS P G K (.binOp .geq t x y yt) st (.bool (decide (b ≤ a))) st :=
 os_bin hx hy (by rw [b2_int (by decide) (by decide)]; show some (AV.bool (!ltI a b)) = _; rw [ltI_eq, not_lt_dec])
theorem eqI_dec (a b : Int) : eqI a b = decide (a = b) := by rw [eqI_eq]; exact Bool.beq_eq_decide_eq a b
theorem os_eqI {t yt : TypeId} {x y : Operand} {k : IntKind} {a b : Int} (hx : opK G K x = some (.int k a)) (hy : opK G K y = some (.int k b)) : OpS P G K (.binOp .eql t x y yt) st (.bool (decide (a = b))) st :=
 os_bin hx hy (by rw [b2_int (by decide) (by decide)]; show some (AV.bool (eqI a b)) = _; rw [eqI_dec])
theorem os_neI {t yt : TypeId} {x y : Operand} {k : IntKind} {a b : Int} (hx : opK G K x = some (.int k a)) (hy : opK G K y = some (.int k b)) : OpS P G K (.binOp .neq t x y yt) st (.bool (!decide (a = b))) st :=
 os_bin hx hy (by rw [b2_int (by decide) (by decide)]; show some (AV.bool (!eqI a b)) = _; rw [eqI_dec])
theorem wrap64 {n : Int} (h1 : -9223372036854775808 ≤ n) (h2 : n ≤ 9223372036854775807) : IntKind.i64.wrap n = n := IntWalk.i64_in n (by omega)
theorem os_add {t yt : TypeId} {x y : Operand} {a b : Int} (hx : opK G K x = some (.int .i64 a)) (hy : opK G K y = some (.int .i64 b)) (h1 : -9223372036854775808 ≤ a + b) (h2 : a + b ≤ 9223372036854775807) : OpS P G K (.binOp .add t x y yt) st (.int .i64 (a + b)) st :=
 os_bin hx hy (by rw [b2_int (by decide) (by decide)]; show sInt (wrapF .i64 (a + b)) (fun z => some (AV.int .i64 z)) = _; rw [sInt_eq, wrapF_eq, wrap64 h1 h2])
theorem os_sub {t yt : TypeId} {x y : Operand} {a b : Int} (hx : opK G K x = some (.int .i64 a)) (hy : opK G K y = some (.int .i64 b)) (h1 : -9223372036854775808 ≤ a - b) (h2 : a - b ≤ 9223372036854775807) : OpS P G K (.binOp .sub t x y yt) st (.int .i64 (a - b)) st :=
 os_bin hx hy (by rw [b2_int (by decide) (by decide)]; show sInt (wrapF .i64 (a - b)) (fun z => some (AV.int .i64 z)) = _; rw [sInt_eq, wrapF_eq, wrap64 h1 h2])
theorem os_not {t : TypeId} {x : Operand} {b : Bool} (hx : opK G K x = some (.bool b)) : OpS P G K (.unOp .not t x) st (.bool (!b)) st := .of fun T hT c d ty pos af g => by
 show ret (ob (opd G T x) fun x => un1 .not x) st = _
 rw [hT.opd hx]; rfl
theorem os_nil {x : Operand} {v : AV} (hx : opK G K x = some v) (hv : (match v with | .ptr _ _ _ => true | .fn _ _ _ => true | _ => false) = true) : OpS P G K (.nilCheck x) st v st := .of fun T hT c d ty pos af g => by
 show ret (ob (opd G T x) fun v => (match v with
  | .ptr c m off => some (.ptr c m off)
  | .fn f a c => some (.fn f a c)
  | _ => none)) st = _
 rw [hT.opd hx, ob_some]
 cases v <;> first | rfl | cases hv
theorem os_fieldAddr {t : TypeId} {x : Operand} {f c m off o : Nat} (ho : fieldOff P t f = some o) (hx : opK G K x = some (.ptr c m off)) : OpS P G K (.fieldAddr t x f) st (.ptr c m (off + o)) st := .of fun T hT cc d ty pos af g => by
 show ret (ob (opd G T x) fun x => fieldAddrA P t x f) st = _
 rw [hT.opd hx, ob_some]
 show ret (ob (fieldOff P t f) fun o => sNat (off + o) fun z => some (AV.ptr c m z)) st = _
 rw [ho, ob_some, sNat_eq]; rfl
theorem os_field {t : TypeId} {x : Operand} {f : Nat} {u v : AV} (hx : opK G K x = some u) (h : fieldA P t u f = some v) : OpS P G K (.field t x f) st v st := .of fun T hT cc d ty pos af g => by
 show ret (ob (opd G T x) fun x => fieldA P t x f) st = _
 rw [hT.opd hx, ob_some, h]; rfl
theorem os_extract {x : Operand} {i : Nat} {l : List AV} {v : AV} (hx : opK G K x = some (.tup l)) (h : nth l i = some v) : OpS P G K (.extract x i) st v st := .of fun T hT cc d ty pos af g => by
 show ret (ob (opd G T x) fun v => (match v with
  | .tup l => nth l i
  | _ => none)) st = _
 rw [hT.opd hx, ob_some]
 show ret (nth l i) st = _
 rw [h]; rfl
theorem os_indexAddr {t : TypeId} {x i : Operand} {c m off len z z' : Nat} {k : IntKind} {j : Nat} (he : elemOfA P t = some z) (hx : opK G K x = some (.sl c m off len z')) (hi : opK G K i = some (.int k (j : Int))) (hj : j < len) :
  OpS P G K (.indexAddr t x i) st (.ptr c m (off + j * z)) st := .of fun T hT cc d ty pos af g => by
 show ret (ob (opd G T x) fun x => ob (opd G T i) fun i => indexAddrA P t x i) st = _
 rw [hT.opd hx, hT.opd hi, ob_some, ob_some]
 show ret (ob (toN (j : Int)) fun i => need (Nat.ble (i + 1) len) (ob (elemOfA P t) fun z => sNat (off + i * z) fun o => some (AV.ptr c m o))) st = _
 show ret (need (Nat.ble (j + 1) len) (ob (elemOfA P t) fun z => sNat (off + j * z) fun o => some (AV.ptr c m o))) st = _
 rw [Nat.ble_eq_true_of_le hj, he]
 show ret (sNat (off + j * z) fun o => some (AV.ptr c m o)) st = _
 rw [sNat_eq]; rfl
theorem isMapT_sl {t e : TypeId} (ht : P.underlying t = some (.slice e)) : isMapT P [t] = false := by unfold isMapT; simp only [ht]
/-- How long a row is. -/
def slLen : AV → Option Nat
  | .nils => some 0
  | .slz _ _ _ _ _ => some 0
  | .sl0 _ _ _ => some 0
  | .sl _ _ _ n _ => some n
  | _ => none
theorem os_lenL {tys : Array TypeId} {t e : TypeId} {x : Operand} {u : AV} {n : Nat} (ht : P.underlying t = some (.slice e)) (htys : tys = #[t]) (hx : opK G K x = some u) (hn : slLen u = some n) :
  OpS P G K (.call { callee := .builtin .len, args := #[x], argTypes := tys }) st (.int .i64 (n : Int)) st := .of fun T hT cc d ty pos af g => by
 subst htys
 show bif' (isMapT P [t]) _ (ret (ob (opd G T x) fun x => lenA P [t] x) st) = _
 rw [isMapT_sl ht, bif_false, hT.opd hx, ob_some]
 cases u <;> simp only [slLen] at hn <;> first | (cases hn; done) | skip
 all_goals
  injection hn with hn
  subst hn
  unfold lenA
  simp only [ht]
  rfl
theorem os_call {f : FuncId} {args : Array Operand} {tys : Array TypeId} {l : List AV} {v : AV} {st1 : St} (ha : mapO (opK G K) args.toList = some l) (h : Ev P G f l st v st1) :
  OpS P G K (.call { callee := .value (.func f), args := args, argTypes := tys }) st v st1 := fun T hT d ty pos af g => by
 obtain ⟨L, n, h⟩ := h
 refine ⟨L, n, fun L' n' hL hn => ?_⟩
 show (ob (opd G T (.func f)) fun v => (match v with
  | .fn fid a cap => ob (mapO (opd G T) args.toList) fun l => callF P G L' n' fid (appL a (appL l cap)) st
  | _ => none)) = _
 show (ob (mapO (opd G T) args.toList) fun l => callF P G L' n' f (appL [] (appL l [])) st) = _
 rw [hT.row _ _ ha, ob_some, appL_eq, appL_eq, List.nil_append, List.append_nil]
 exact callF_mono n n' L L' hn hL _ _ _ _ h
theorem os_callv {g : Operand} {args : Array Operand} {tys : Array TypeId} {f : FuncId} {a l cap : List AV} {v : AV} {st1 : St} (hg : opK G K g = some (.fn f a cap)) (ha : mapO (opK G K) args.toList = some l) (h : Ev P G f (a ++ (l ++ cap)) st v st1) :
  OpS P G K (.call { callee := .value g, args := args, argTypes := tys }) st v st1 := fun T hT d ty pos af gg => by
 obtain ⟨L, n, h⟩ := h
 refine ⟨L, n, fun L' n' hL hn => ?_⟩
 show (ob (opd G T g) fun v => (match v with
  | .fn fid a cap => ob (mapO (opd G T) args.toList) fun l => callF P G L' n' fid (appL a (appL l cap)) st
  | _ => none)) = _
 rw [hT.opd hg, ob_some]
 show (ob (mapO (opd G T) args.toList) fun l => callF P G L' n' f (appL a (appL l cap)) st) = _
 rw [hT.row _ _ ha, ob_some, appL_eq, appL_eq]
 exact callF_mono n n' L L' hn hL _ _ _ _ h
theorem os_func {f : FuncId} {first cap : Array Operand} {a c : List AV} (ha : mapO (opK G K) first.toList = some a) (hc : mapO (opK G K) cap.toList = some c) : OpS P G K (.makeFunc (.func f) first cap) st (.fn f a c) st := .of fun T hT cc d ty pos af g => by
 show ret (ob (mapO (opd G T) first.toList) fun l => ob (mapO (opd G T) cap.toList) fun r => some (AV.fn f l r)) st = _
 rw [hT.row _ _ ha, hT.row _ _ hc]; rfl
theorem os_load {t : TypeId} {x : Operand} {u v : AV} (hx : opK G K x = some u) (h : loadA P t u st.h.get = some v) : OpS P G K (.load t x) st v st := .of fun T hT cc d ty pos af g => by
 show (ob (opd G T x) fun x => ret (loadA P t x st.h.get) st) = _
 rw [hT.opd hx, ob_some, h]; rfl
theorem os_convert {s d : TypeId} {x : Operand} {u v : AV} (hx : opK G K x = some u) (h : convM P s d u st.h.get = some v) : OpS P G K (.convert s d x) st v st := .of fun T hT cc dd ty pos af g => by
 show ret (ob (opd G T x) fun x => convM P s d x st.h.get) st = _
 rw [hT.opd hx, ob_some, h]; rfl

/-! Functions. -/
theorem ev_fn {f : FuncId} {fn : Func} {c : Code} {N : Nat} {rs : List ResultVar} {args : List AV} {Q : AV → St → Prop} (hs : G.s f = none) (hf : P.funcs[f]? = some fn) (hb : fn.body = some c) (hN : fn.ntmps = N) (hr : fn.results.toList = rs) (hname : (fn.name == "runtime.NumGoroutine") = false) (hl : args.length ≤ N)
  (h : ∀ T, (∀ t, tget T t = (args[t]?).getD (.tup [])) → W P G N c (fun x T st => (x = .nor ∨ x = .ret) ∧ ∃ v, resultsF P rs T st = some v ∧ Q v st) T st) : ∃ v st', Ev P G f args st v st' ∧ Q v st' := by
 obtain ⟨T, hT1, hT2⟩ := argsF_all args
 obtain ⟨L, n, x, T', st', h1, hx, v, h2, h3⟩ := h T hT2
 refine ⟨v, st', ⟨L, n + 1, ?_⟩, h3⟩
 show (Option.rec (ob (fnOf P f) fun q => need (Nat.ble (lenL args) q.2.1) (argsF args fun T => endF (codeF P G (callF P G L n) q.2.1 L q.1 T st) fun T st => ob (resultsF P q.2.2 T st) fun v => some (v, st))) (fun sm => sm args st) (G.s f) : Option (AV × St)) = some (v, st')
 rw [hs]
 show (ob (fnOf P f) fun q => need (Nat.ble (lenL args) q.2.1) (argsF args fun T => endF (codeF P G (callF P G L n) q.2.1 L q.1 T st) fun T st => ob (resultsF P q.2.2 T st) fun v => some (v, st))) = some (v, st')
 have hfn : fnOf P f = some (c, N, rs) := by
  unfold fnOf
  rw [hf]
  simp only [hb, hname, hN, hr]
  rfl
 rw [hfn, ob_some, lenL_eq, Nat.ble_eq_true_of_le hl, hT1, need_true']
 show endF (codeF P G (callF P G L n) N L c T st) _ = _
 rw [h1]
 rcases hx with rfl | rfl
 ·show ob (resultsF P rs T' st') _ = _
  rw [h2]; rfl
 ·show ob (resultsF P rs T' st') _ = _
  rw [h2]; rfl
end Go.Proofs.YtiknomepbklibaaGreatDoor
end

section
/-
  Calls with open arguments, by the reckoner: memory of one's own.
-/
namespace Go.Proofs.YtiknomepbklibaaGreatDoor
open Go
set_option linter.unusedVariables false
set_option linter.unusedSimpArgs false

/-- Memory as a function has it: what lay there is kept, but for some classes; rows of which the cells are known. -/
structure Mem (h0 : Hp) (n0 : Nat) (X : List Nat) (st : St) (M : List (Nat × Nat × List AV)) : Prop where
  fresh : Fresh st
  le : n0 ≤ st.n
  base : ∀ c, n0 ≤ c → h0 c = none
  row : ∀ c m l, (c, m, l) ∈ M → ∃ vs ms, st.h.get c = some (.row false ms) ∧ ms[m]? = some (l.length, vs, some l)
  lt : ∀ c m l, (c, m, l) ∈ M → c < st.n
  own : ∀ c m l, (c, m, l) ∈ M → n0 ≤ c ∨ c ∈ X
  nodup : (M.map Prod.fst).Nodup
  old : ∀ c, c < n0 → c ∉ X → st.h.get c = h0 c
/-- Nothing that lay there is changed. -/
structure Qt (st st' : St) : Prop where
  fresh : Fresh st'
  le : st.n ≤ st'.n
  old : ∀ c, c < st.n → st'.h.get c = st.h.get c
theorem Qt.trans {a b c : St} (x : Qt a b) (y : Qt b c) : Qt a c := ⟨y.fresh, Nat.le_trans x.le y.le, fun k hk => by rw [y.old k (Nat.lt_of_lt_of_le hk x.le), x.old k hk]⟩
theorem Mem.start {st : St} (h : Fresh st) : Mem st.h.get st.n [] st [] :=
 ⟨h, Nat.le_refl _, h, fun c m l h => (by cases h), fun c m l h => (by cases h), fun c m l h => (by cases h), List.nodup_nil, fun _ _ _ => rfl⟩
section
variable {P : Program} {G : Env} {N : Nat} {h0 : Hp} {n0 : Nat} {X : List Nat} {st : St} {M : List (Nat × Nat × List AV)}
theorem Mem.qt {st0 : St} (h : Mem st0.h.get st0.n [] st M) : Qt st0 st := ⟨h.fresh, h.le, fun c hc => h.old c hc (by simp)⟩
theorem Mem.less (h : Mem h0 n0 X st M) {M' : List (Nat × Nat × List AV)} (hs : M'.Sublist M) : Mem h0 n0 X st M' :=
 ⟨h.fresh, h.le, h.base, fun c m l hm => h.row c m l (hs.subset hm), fun c m l hm => h.lt c m l (hs.subset hm), fun c m l hm => h.own c m l (hs.subset hm), h.nodup.sublist (hs.map _), h.old⟩
theorem Mem.quiet (h : Mem h0 n0 X st M) {st' : St} (q : Qt st st') : Mem h0 n0 X st' M :=
 ⟨q.fresh, Nat.le_trans h.le q.le, h.base, fun c m l hm => by
  obtain ⟨vs, ms, h1, h2⟩ := h.row c m l hm
  exact ⟨vs, ms, by rw [q.old c (h.lt c m l hm)]; exact h1, h2⟩, fun c m l hm => Nat.lt_of_lt_of_le (h.lt c m l hm) q.le, h.own, h.nodup, fun c hc hx => by rw [q.old c (Nat.lt_of_lt_of_le hc h.le)]; exact h.old c hc hx⟩
theorem Mem.alloc (h : Mem h0 n0 X st M) (l : List AV) : Mem h0 n0 X ⟨st.n + 1, st.h.set st.n (.row false [(l.length, 0, some l)])⟩ ((st.n, 0, l) :: M) := by
 have hg : ∀ c, (st.h.set st.n (.row false [(l.length, 0, some l)])).get c = if c = st.n then some (.row false [(l.length, 0, some l)]) else st.h.get c := fun c => Tr.get_set _ _ _ _
 refine ⟨fun c hc => ?_, Nat.le_succ_of_le h.le, h.base, fun c m l' hm => ?_, fun c m l' hm => ?_, fun c m l' hm => ?_, ?_, fun c hc hx => ?_⟩
 ·have hc : st.n + 1 ≤ c := hc
  show (st.h.set st.n _).get c = none
  rw [hg, if_neg (by omega)]; exact h.fresh c (by omega)
 ·rcases List.mem_cons.1 hm with e | hm
  ·injection e with e1 e2
   injection e2 with e2 e3
   subst e1 e2 e3
   exact ⟨0, _, (hg _).trans (if_pos rfl), rfl⟩
  ·obtain ⟨vs, ms, h1, h2⟩ := h.row c m l' hm
   have := h.lt c m l' hm
   exact ⟨vs, ms, by show (st.h.set st.n _).get c = _; rw [hg, if_neg (by omega)]; exact h1, h2⟩
 ·rcases List.mem_cons.1 hm with e | hm
  ·injection e with e1 e2; subst e1; exact Nat.lt_succ_self _
  ·exact Nat.lt_succ_of_lt (h.lt c m l' hm)
 ·rcases List.mem_cons.1 hm with e | hm
  ·injection e with e1 e2; subst e1; exact .inl h.le
  ·exact h.own c m l' hm
 ·rw [List.map_cons]
  refine List.nodup_cons.2 ⟨fun hm => ?_, h.nodup⟩
  obtain ⟨⟨c, m, l'⟩, h1, h2⟩ := List.mem_map.1 hm
  have := h.lt c m l' h1
  simp only at h2
  omega
 ·show (st.h.set st.n _).get c = _
  have := h.le
  rw [hg, if_neg (by omega)]; exact h.old c hc hx
theorem set_map_fst {k : Nat} {c m : Nat} {l l' : List AV} {M : List (Nat × Nat × List AV)} (hk : M[k]? = some (c, m, l)) : (M.set k (c, m, l')).map Prod.fst = M.map Prod.fst := by
 apply List.ext_getElem?
 intro i
 rw [List.getElem?_map, List.getElem?_map, List.getElem?_set]
 by_cases h : k = i
 ·subst h
  rw [if_pos rfl, hk]
  have := (List.getElem?_eq_some_iff.1 hk).1
  simp [this]
 ·rw [if_neg h]
theorem mem_set_iff {k : Nat} {c m : Nat} {l l' : List AV} {M : List (Nat × Nat × List AV)} (hk : M[k]? = some (c, m, l)) (hn : (M.map Prod.fst).Nodup) {x : Nat × Nat × List AV} (hx : x ∈ M.set k (c, m, l')) :
  x = (c, m, l') ∨ (x ∈ M ∧ x.1 ≠ c) := by
 obtain ⟨i, hi⟩ := List.getElem?_of_mem hx
 rw [List.getElem?_set] at hi
 by_cases h : k = i
 ·subst h
  have := (List.getElem?_eq_some_iff.1 hk).1
  simp [this] at hi
  exact .inl hi.symm
 ·rw [if_neg h] at hi
  refine .inr ⟨List.mem_of_getElem? hi, fun e => h ?_⟩
  have h1 : (M.map Prod.fst)[k]? = some c := by rw [List.getElem?_map, hk]; rfl
  have h2 : (M.map Prod.fst)[i]? = some c := by rw [List.getElem?_map, hi]; simp [e]
  exact (List.getElem?_inj (List.getElem?_eq_some_iff.1 h1).1 hn).1 (h1.trans h2.symm)
theorem Mem.store (h : Mem h0 n0 X st M) {k c m off : Nat} {l l' : List AV} {t : TypeId} {w : AV} {n : Nat} (hk : M[k]? = some (c, m, l)) (hz : sizeA P t = some n) (hn : (cellsA w).length = n) (hc : allL isCell (cellsA w) = true) (ho : overL (cellsA w) off l = some l') :
  ∃ st1, storeA P t (.ptr c m off) w st = some (.tup [], st1) ∧ Mem h0 n0 X st1 (M.set k (c, m, l')) ∧ st1.n = st.n := by
 have hm := List.mem_of_getElem? hk
 obtain ⟨vs, ms, h1, h2⟩ := h.row c m l hm
 have hlen : l'.length = l.length := (overL_spec _ _ _ _ ho).2.1
 have hr : rowOf st.h.get c m = some (l.length, vs, l, false, ms) := by
  unfold rowOf
  rw [h1, ob_some]
  show ob (nth ms m) _ = _
  rw [nth_eq, h2]; rfl
 have e : ∃ ms', storeA P t (.ptr c m off) w st = some (.tup [], ⟨st.n, st.h.set c (.row false ms')⟩) ∧ ms'[m]? = some (l.length, vs, some l') := by
  unfold storeA
  simp only [hr, ob_some, hz, lenL_eq, hn, Nat.beq_refl, need_true', hc, ho, Bool.not_false]
  refine ⟨setN (l.length, vs, some l') (killMs (vs + off) (vs + off + n) ms) m, by rw [sList_eq, sList_eq, withCls_eq], ?_⟩
  rw [setN_eq, List.getElem?_set_self]
  rw [killMs_length]
  exact (List.getElem?_eq_some_iff.1 h2).1
 obtain ⟨ms', e1, e2⟩ := e
 have hg : ∀ x, (st.h.set c (.row false ms')).get x = if x = c then some (.row false ms') else st.h.get x := fun x => Tr.get_set _ _ _ _
 refine ⟨_, e1, ⟨fun x hx => ?_, h.le, h.base, fun x y z hm' => ?_, fun x y z hm' => ?_, fun x y z hm' => ?_, ?_, fun x hx hX => ?_⟩, rfl⟩
 ·show (st.h.set c _).get x = none
  have := h.lt c m l hm
  have hx : st.n ≤ x := hx
  rw [hg, if_neg (by omega)]; exact h.fresh x hx
 ·rcases mem_set_iff hk h.nodup hm' with e | ⟨h3, h4⟩
  ·injection e with e1 e2
   injection e2 with e2 e3
   subst e1 e2 e3
   exact ⟨vs, ms', (hg _).trans (if_pos rfl), by rw [hlen]; exact e2⟩
  ·obtain ⟨vs', ms2, h5, h6⟩ := h.row x y z h3
   exact ⟨vs', ms2, by show (st.h.set c _).get x = _; rw [hg, if_neg h4]; exact h5, h6⟩
 ·rcases mem_set_iff hk h.nodup hm' with e | ⟨h3, h4⟩
  ·injection e with e1 e2; subst e1; exact h.lt _ m l hm
  ·exact h.lt x y z h3
 ·rcases mem_set_iff hk h.nodup hm' with e | ⟨h3, h4⟩
  ·injection e with e1 e2; subst e1; exact h.own _ m l hm
  ·exact h.own x y z h3
 ·rw [set_map_fst hk]; exact h.nodup
 ·show (st.h.set c _).get x = _
  have hxc : x ≠ c := fun e => by
   subst e
   rcases h.own x m l hm with h5 | h5
   ·omega
   ·exact hX h5
  rw [hg, if_neg hxc]; exact h.old x hx hX
theorem Mem.load (h : Mem h0 n0 X st M) {k c m off : Nat} {l : List AV} {t : TypeId} {v : AV} (hk : M[k]? = some (c, m, l)) (hp : partA P t l off = some v) : loadA P t (.ptr c m off) st.h.get = some v := by
 obtain ⟨vs, ms, h1, h2⟩ := h.row c m l (List.mem_of_getElem? hk)
 show ob (rowOf st.h.get c m) _ = _
 unfold rowOf
 rw [h1, ob_some]
 show ob (ob (nth ms m) _) _ = _
 rw [nth_eq, h2]
 exact hp

variable {ops rest : List Oper} {K : List (Nat × AV)} {R : Tr AV → St → Prop} {T : Tr AV}
/-- A variable's cell. -/
theorem wr_alloc {d : Nat} {t ty : TypeId} {pos : String} {af : Array Edge} {l : List AV} (hK : KnT K T) (hM : Mem h0 n0 X st M) (hz : zeroOf P t = some l) (hN : d < N)
    (hn : ∀ (c : Nat) T' st', KnT ((d, .ptr c 0 0) :: K) T' → Mem h0 n0 X st' ((c, 0, l) :: M) → WR P G N ops rest R T' st') : WR P G N ops (⟨some d, .alloc t, ty, pos, af, none⟩ :: rest) R T st := by
  refine wr_op (v := .ptr st.n 0 0) (st1 := ⟨st.n + 1, st.h.set st.n (.row false [(l.length, 0, some l)])⟩) hK (.of fun T hT c d ty pos af g => ?_) hN fun T' hT' => hn st.n T' _ hT' (hM.alloc l)
  show allocA P t st = _
  unfold allocA
  rw [hz, ob_some, memRow_eq]
theorem wr_box {d : Nat} {t ty : TypeId} {pos : String} {af : Array Edge} {x : Operand} {v : AV} (hK : KnT K T) (hM : Mem h0 n0 X st M) (hx : opK G K x = some v) (hc : allL isCell (cellsA v) = true) (hN : d < N)
  (hn : ∀ (c : Nat) T' st', KnT ((d, .ptr c 0 0) :: K) T' → Mem h0 n0 X st' ((c, 0, cellsA v) :: M) → WR P G N ops rest R T' st') : WR P G N ops (⟨some d, .box t x, ty, pos, af, none⟩ :: rest) R T st := by
 refine wr_op (v := .ptr st.n 0 0) (st1 := ⟨st.n + 1, st.h.set st.n (.row false [((cellsA v).length, 0, some (cellsA v))])⟩) hK (.of fun T hT c d ty pos af g => ?_) hN fun T' hT' => hn st.n T' _ hT' (hM.alloc _)
 show (ob (opd G T x) fun x => boxA x st) = _
 rw [hT.opd hx, ob_some]
 unfold boxA
 rw [hc, need_true', memRow_eq]
theorem wr_store {t ty : TypeId} {pos : String} {af : Array Edge} {x y : Operand} {w : AV} {k c m off n : Nat} {l l' : List AV} (hK : KnT K T) (hM : Mem h0 n0 X st M) (hx : opK G K x = some (.ptr c m off)) (hy : opK G K y = some w) (hk : M[k]? = some (c, m, l)) (hz : sizeA P t = some n) (hn : (cellsA w).length = n)
  (hc : allL isCell (cellsA w) = true) (ho : overL (cellsA w) off l = some l') (hr : ∀ st', Mem h0 n0 X st' (M.set k (c, m, l')) → WR P G N ops rest R T st') : WR P G N ops (⟨none, .store t x y, ty, pos, af, none⟩ :: rest) R T st := by
 obtain ⟨st1, h1, h2, _⟩ := hM.store hk hz hn hc ho
 refine wr_do (v := .tup []) (st1 := st1) hK (.of fun T hT c d ty pos af g => ?_) (hr st1 h2)
 show (ob (opd G T x) fun x => ob (opd G T y) fun y => storeA P t x y st) = _
 rw [hT.opd hx, hT.opd hy, ob_some, ob_some, h1]
end
/-! What one type's cells are. -/
theorem part_agg {P : Program} {t : TypeId} {n : Nat} {l r : List AV} {off : Nat} (h : tk P t = .agg n) (hl : takeK n (dropN off l) (fun r => some (AV.agg r)) = some (.agg r)) : partA P t l off = some (.agg r) := by
 unfold partA
 rw [h]
 exact hl
theorem part_one {P : Program} {t : TypeId} {l : List AV} {off : Nat} {v : AV} (h : tk P t = .one) (hl : nth l off = some v) : partA P t l off = some v := by
 unfold partA
 rw [h]
 exact hl
end Go.Proofs.YtiknomepbklibaaGreatDoor
end

section
/-
  Calls with open arguments, by the reckoner: guards, ends.
-/
namespace Go.Proofs.YtiknomepbklibaaGreatDoor
open Go
set_option linter.unusedVariables false

variable {P : Program} {G : Env} {N : Nat} {st : St} {K : List (Nat × AV)} {T : Tr AV} {ops rest : List Oper} {R : Tr AV → St → Prop}
/-- A truth by name. -/
theorem wr_opb {d : Nat} {op : Op} {ty : TypeId} {pos : String} {af : Array Edge} {x : Bool} {st1 : St} (hK : KnT K T) (h : OpS P G K op st (.bool x) st1) (hN : d < N) (hn : ∀ (b : Bool) T', x = b → KnT ((d, .bool b) :: K) T' → WR P G N ops rest R T' st1) :
    WR P G N ops (⟨some d, op, ty, pos, af, none⟩ :: rest) R T st := wr_op hK h hN fun T' hT' => hn x T' rfl hT'
theorem wants_known {j t : Nat} {d : Option Nat} {op : Op} {ty : TypeId} {pos : String} {af : Array Edge} {b pol : Bool} (hK : KnT K T) (ht : dstOf ops j = some t) (hb : K.lookup t = some (.bool b)) : wants ops ⟨d, op, ty, pos, af, some (j, pol)⟩ T = (b == pol) := by
 unfold wants
 simp only [ht]
 rw [show tget T t = .bool b from hK t _ hb]
 cases b <;> cases pol <;> rfl
/-- The guard lets it be. -/
theorem wr_gy {d j t : Nat} {op : Op} {ty : TypeId} {pos : String} {af : Array Edge} {pol : Bool} {v : AV} {st1 : St} (hK : KnT K T) (ht : dstOf ops j = some t) (hb : K.lookup t = some (.bool pol)) (h : OpS P G K op st v st1) (hN : d < N)
    (hn : ∀ T', KnT ((d, v) :: K) T' → WR P G N ops rest R T' st1) : WR P G N ops (⟨some d, op, ty, pos, af, some (j, pol)⟩ :: rest) R T st :=
  wr_step (by rw [wants_known hK ht hb]; cases pol <;> rfl) (h T hK _ _ _ _ _) (fun e he => by injection he with he; rw [← he]; exact hN) (hn _ (hK.set d v))
/-- The guard skips it. -/
theorem wr_gn {d j t : Nat} {op : Op} {ty : TypeId} {pos : String} {af : Array Edge} {b pol : Bool} (hK : KnT K T) (ht : dstOf ops j = some t) (hb : K.lookup t = some (.bool b)) (hne : (b == pol) = false) (hN : d < N)
    (hn : ∀ T', KnT ((d, .tup []) :: K) T' → WR P G N ops rest R T' st) : WR P G N ops (⟨some d, op, ty, pos, af, some (j, pol)⟩ :: rest) R T st := by
  obtain ⟨L', n', T', st', h1, h2⟩ := hn _ (hK.set d (.tup []))
  refine ⟨L', n', T', st', ?_, h2⟩
  show (ob (stepF P G _ ops _ T st) fun r => putF N (some d) r.1 T fun T => tl (regS P G _ N ops rest T r.2)) = _
  unfold stepF
  rw [wants_known hK ht hb, hne, bif_false, ob_some]
  show need (Nat.ble (d + 1) N) (T.put d (.tup []) _) = _
  rw [Nat.ble_eq_true_of_le hN, Tr.put_eq]
  exact h1
theorem os_max {x y : Operand} {tys : Array TypeId} {a b : Int} {k : IntKind} (hx : opK G K x = some (.int k a)) (hy : opK G K y = some (.int k b)) : OpS P G K (.call { callee := .builtin .max, args := #[x, y], argTypes := tys }) st (.int k (max a b)) st := .of fun T hT cc d ty pos af g => by
 show ret (ob (mapO (opd G T) [x, y]) (mmA true)) st = _
 rw [mapO_cons, hT.opd hx, ob_some, mapO_cons, hT.opd hy, ob_some]
 show ret (some (AV.int k (bif' (ltI a b) b a))) st = _
 rw [ltI_eq]
 by_cases h : a < b
 ·rw [decide_eq_true h, bif_true, show max a b = b by omega]; rfl
 ·rw [decide_eq_false h, bif_false, show max a b = a by omega]; rfl
end Go.Proofs.YtiknomepbklibaaGreatDoor
end

section
/-
  Calls with open arguments, by the reckoner: regions that draw their order.
-/
namespace Go.Proofs.YtiknomepbklibaaGreatDoor
open Go
set_option linter.unusedVariables false

variable {P : Program} {G : Env} {N : Nat} {st : St} {K : List (Nat × AV)} {T : Tr AV} {ops : List Oper} {rest : List (Nat × Oper × Nat)} {R : Tr AV → St → Prop} {sn : List St}
/-- A plan by indices. -/
def plF (ops : List Oper) (q : Nat × Nat) : Nat × Oper × Nat := (q.1, (ops[q.1]?).getD ⟨none, .move (.tmp 0), 0, "", #[], none⟩, q.2)
theorem plF_cons {ops : List Oper} {i n : Nat} {o : Oper} (ho : ops[i]? = some o) (r : List (Nat × Nat)) : ((i, n) :: r).map (plF ops) = (i, o, n) :: r.map (plF ops) := by
 rw [List.map_cons]
 unfold plF
 rw [ho]
 rfl
theorem w_drawI {id : Nat} {ops : Array Oper} {Q : Ex → Tr AV → St → Prop} {l : List (Nat × Nat)} (hp : planOf P ops.toList = some (l.map (plF ops.toList)))
 (h : WD P G N ops.toList (l.map (plF ops.toList)) (Q .nor) T st [st]) : W P G N (.region id ops true) Q T st := w_draw hp h
theorem wd_nil (h : R T st) : WD P G N ops (([] : List (Nat × Nat)).map (plF ops)) R T st sn := ⟨0, 0, T, st, rfl, h⟩
theorem wd_step {i n : Nat} {o : Oper} {v : AV} {st1 : St} (hw : wants ops o T = true) (h : ∃ L n, ∀ L' n', L ≤ L' → n ≤ n' → opF P (opd G T) (callF P G L' n') o st = some (v, st1)) (ha : again P G o T v n sn.tail = true) (hd : ∀ d, o.dst = some d → d < N)
  (hn : WD P G N ops rest R (match o.dst with | some d => T.set d v | none => T) st1 (bif' (Nat.beq (kindA P o.op) 3) (st1 :: sn) sn)) : WD P G N ops ((i, o, n) :: rest) R T st sn := by
 obtain ⟨L, m, h⟩ := h
 obtain ⟨L', m', T', st', h1, h2⟩ := hn
 refine ⟨max L L', max m m', T', st', ?_, h2⟩
 show (ob (stepF P G _ ops o T st) fun r => need (bif' (wants ops o T) (again P G o T r.1 n (List.rec [] (fun _ t _ => t) sn)) true)
  (putF N o.dst r.1 T fun T => tl (regD P G _ N ops rest T r.2 (bif' (Nat.beq (kindA P o.op) 3) (r.2 :: sn) sn)))) = _
 have e : stepF P G (callF P G (max L L') (max m m')) ops o T st = some (v, st1) := by
  unfold stepF
  rw [hw, bif_true]
  exact h _ _ (Nat.le_max_left _ _) (Nat.le_max_left _ _)
 rw [e, ob_some, hw, bif_true, rec_tail]
 show need (again P G o T v n sn.tail) _ = _
 rw [ha, need_true']
 have h1' := regD_mono (callF_mono m' (max m m') L' (max L L') (Nat.le_max_right _ _) (Nat.le_max_right _ _)) _ _ _ _ _ h1
 cases hdst : o.dst with
 | none => rw [hdst] at h1'; exact h1'
 | some d =>
  rw [hdst] at h1'
  show need (Nat.ble (d + 1) N) (T.put d v _) = _
  rw [Nat.ble_eq_true_of_le (hd d hdst), Tr.put_eq]
  exact h1'
section
variable {r : List (Nat × Nat)} {i d : Nat} {op : Op} {ty : TypeId} {pos : String} {af : Array Edge} {v : AV} {st1 : St}
theorem wd_op (ho : ops[i]? = some ⟨some d, op, ty, pos, af, none⟩) (hK : KnT K T) (h : OpS P G K op st v st1) (hk : Nat.beq (kindA P op) 3 = false) (hN : d < N) (hn : ∀ T', KnT ((d, v) :: K) T' → WD P G N ops (r.map (plF ops)) R T' st1 sn) :
  WD P G N ops (((i, 0) :: r).map (plF ops)) R T st sn := by
 rw [plF_cons ho]
 exact wd_step rfl (h T hK _ _ _ _ _) rfl (fun e he => by injection he with he; rw [← he]; exact hN) (by
  show WD P G N ops (r.map (plF ops)) R _ st1 (bif' (Nat.beq (kindA P op) 3) _ _)
  rw [hk]; exact hn _ (hK.set d v))
theorem wd_act (ho : ops[i]? = some ⟨some d, op, ty, pos, af, none⟩) (hK : KnT K T) (h : OpS P G K op st v st1) (hk : Nat.beq (kindA P op) 3 = true) (hN : d < N) (hn : ∀ T', KnT ((d, v) :: K) T' → WD P G N ops (r.map (plF ops)) R T' st1 (st1 :: sn)) :
  WD P G N ops (((i, 0) :: r).map (plF ops)) R T st sn := by
 rw [plF_cons ho]
 exact wd_step rfl (h T hK _ _ _ _ _) rfl (fun e he => by injection he with he; rw [← he]; exact hN) (by
  show WD P G N ops (r.map (plF ops)) R _ st1 (bif' (Nat.beq (kindA P op) 3) _ _)
  rw [hk]; exact hn _ (hK.set d v))
/-- A load that stands before an act or behind it. -/
theorem wd_load1 {t : TypeId} {x : Operand} {u : AV} {s0 s1 : St} (ho : ops[i]? = some ⟨some d, .load t x, ty, pos, af, none⟩) (hK : KnT K T) (hx : opK G K x = some u) (h : loadA P t u st.h.get = some v) (h1 : loadA P t u s1.h.get = some v) (he : eqV v v = true) (hk : Nat.beq (kindA P (.load t x)) 3 = false) (hN : d < N)
    (hn : ∀ T', KnT ((d, v) :: K) T' → WD P G N ops (r.map (plF ops)) R T' st (s0 :: s1 :: sn)) : WD P G N ops (((i, 1) :: r).map (plF ops)) R T st (s0 :: s1 :: sn) := by
  rw [plF_cons ho]
  exact wd_step rfl (os_load hx h T hK _ _ _ _ _) (by
    show bif' (Option.rec false (fun x => Option.rec false (fun u => eqV u v) (loadA P t x s1.h.get)) (opd G T x)) true false = true
    rw [hK.opd hx]
    show bif' (Option.rec false (fun u => eqV u v) (loadA P t u s1.h.get)) true false = true
    rw [h1]
    show bif' (eqV v v) true false = true
    rw [he]; rfl) (fun e he => by injection he with he; rw [← he]; exact hN) (by
    show WD P G N ops (r.map (plF ops)) R _ st (bif' (Nat.beq (kindA P (.load t x)) 3) _ _)
    rw [hk]; exact hn _ (hK.set d v))
theorem wd_opb {x : Bool} (ho : ops[i]? = some ⟨some d, op, ty, pos, af, none⟩) (hK : KnT K T) (h : OpS P G K op st (.bool x) st1) (hk : Nat.beq (kindA P op) 3 = false) (hN : d < N) (hn : ∀ (b : Bool) T', x = b → KnT ((d, .bool b) :: K) T' → WD P G N ops (r.map (plF ops)) R T' st1 sn) :
 WD P G N ops (((i, 0) :: r).map (plF ops)) R T st sn := wd_op ho hK h hk hN fun T' hT' => hn x T' rfl hT'
theorem wd_gy {j t : Nat} {pol : Bool} (ho : ops[i]? = some ⟨some d, op, ty, pos, af, some (j, pol)⟩) (hK : KnT K T) (ht : dstOf ops j = some t) (hb : K.lookup t = some (.bool pol)) (h : OpS P G K op st v st1) (hk : Nat.beq (kindA P op) 3 = false) (hN : d < N)
  (hn : ∀ T', KnT ((d, v) :: K) T' → WD P G N ops (r.map (plF ops)) R T' st1 sn) : WD P G N ops (((i, 0) :: r).map (plF ops)) R T st sn := by
 rw [plF_cons ho]
 exact wd_step (by rw [wants_known hK ht hb]; cases pol <;> rfl) (h T hK _ _ _ _ _) rfl (fun e he => by injection he with he; rw [← he]; exact hN) (by
  show WD P G N ops (r.map (plF ops)) R _ st1 (bif' (Nat.beq (kindA P op) 3) _ _)
  rw [hk]; exact hn _ (hK.set d v))
theorem wd_gya {j t : Nat} {pol : Bool} (ho : ops[i]? = some ⟨some d, op, ty, pos, af, some (j, pol)⟩) (hK : KnT K T) (ht : dstOf ops j = some t) (hb : K.lookup t = some (.bool pol)) (h : OpS P G K op st v st1) (hk : Nat.beq (kindA P op) 3 = true) (hN : d < N)
  (hn : ∀ T', KnT ((d, v) :: K) T' → WD P G N ops (r.map (plF ops)) R T' st1 (st1 :: sn)) : WD P G N ops (((i, 0) :: r).map (plF ops)) R T st sn := by
 rw [plF_cons ho]
 exact wd_step (by rw [wants_known hK ht hb]; cases pol <;> rfl) (h T hK _ _ _ _ _) rfl (fun e he => by injection he with he; rw [← he]; exact hN) (by
  show WD P G N ops (r.map (plF ops)) R _ st1 (bif' (Nat.beq (kindA P op) 3) _ _)
  rw [hk]; exact hn _ (hK.set d v))
theorem wd_gn {j t n : Nat} {b pol : Bool} (ho : ops[i]? = some ⟨some d, op, ty, pos, af, some (j, pol)⟩) (hK : KnT K T) (ht : dstOf ops j = some t) (hb : K.lookup t = some (.bool b)) (hne : (b == pol) = false) (hN : d < N)
  (hn : ∀ T' sn', KnT ((d, .tup []) :: K) T' → WD P G N ops (r.map (plF ops)) R T' st sn') : WD P G N ops (((i, n) :: r).map (plF ops)) R T st sn := by
 rw [plF_cons ho]
 obtain ⟨L', n', T', st', h1, h2⟩ := hn _ (bif' (Nat.beq (kindA P op) 3) (st :: sn) sn) (hK.set d (.tup []))
 refine ⟨L', n', T', st', ?_, h2⟩
 show (ob (stepF P G _ ops _ T st) fun x => need (bif' (wants ops _ T) _ true) (putF N (some d) x.1 T fun T => tl (regD P G _ N ops (r.map (plF ops)) T x.2 (bif' (Nat.beq (kindA P op) 3) (x.2 :: sn) sn)))) = _
 unfold stepF
 rw [wants_known hK ht hb, hne, bif_false, ob_some, bif_false, need_true']
 show need (Nat.ble (d + 1) N) (T.put d (.tup []) _) = _
 rw [Nat.ble_eq_true_of_le hN, Tr.put_eq]
 exact h1
end
end Go.Proofs.YtiknomepbklibaaGreatDoor
end

section
/-
  Calls with open arguments, by the reckoner: variables and stores where a region draws its order.
-/
namespace Go.Proofs.YtiknomepbklibaaGreatDoor
open Go
set_option linter.unusedVariables false

variable {P : Program} {G : Env} {N : Nat} {st : St} {K : List (Nat × AV)} {T : Tr AV} {ops : List Oper} {r : List (Nat × Nat)} {R : Tr AV → St → Prop} {sn : List St} {h0 : Hp} {n0 : Nat} {X : List Nat} {M : List (Nat × Nat × List AV)}
theorem wd_alloc {i d : Nat} {t ty : TypeId} {pos : String} {af : Array Edge} {l : List AV} (ho : ops[i]? = some ⟨some d, .alloc t, ty, pos, af, none⟩) (hK : KnT K T) (hM : Mem h0 n0 X st M) (hz : zeroOf P t = some l) (hN : d < N)
  (hn : ∀ (c : Nat) T' st', KnT ((d, .ptr c 0 0) :: K) T' → Mem h0 n0 X st' ((c, 0, l) :: M) → WD P G N ops (r.map (plF ops)) R T' st' sn) : WD P G N ops (((i, 0) :: r).map (plF ops)) R T st sn := by
 refine wd_op (v := .ptr st.n 0 0) (st1 := ⟨st.n + 1, st.h.set st.n (.row false [(l.length, 0, some l)])⟩) ho hK (.of fun T hT c d ty pos af g => ?_) rfl hN fun T' hT' => hn st.n T' _ hT' (hM.alloc l)
 show allocA P t st = _
 unfold allocA
 rw [hz, ob_some, memRow_eq]
theorem wd_store {i : Nat} {t ty : TypeId} {pos : String} {af : Array Edge} {x y : Operand} {w : AV} {k c m off n : Nat} {l l' : List AV} (ho : ops[i]? = some ⟨none, .store t x y, ty, pos, af, none⟩) (hK : KnT K T) (hM : Mem h0 n0 X st M) (hx : opK G K x = some (.ptr c m off)) (hy : opK G K y = some w)
  (hk : M[k]? = some (c, m, l)) (hz : sizeA P t = some n) (hn : (cellsA w).length = n) (hc : allL isCell (cellsA w) = true) (hv : overL (cellsA w) off l = some l')
  (hr : ∀ st', Mem h0 n0 X st' (M.set k (c, m, l')) → WD P G N ops (r.map (plF ops)) R T st' (st' :: sn)) : WD P G N ops (((i, 0) :: r).map (plF ops)) R T st sn := by
 obtain ⟨st1, h1, h2, _⟩ := hM.store hk hz hn hc hv
 rw [plF_cons ho]
 have hS : OpS P G K (.store t x y) st (.tup []) st1 := .of fun T hT c d ty pos af g => by
  show (ob (opd G T x) fun x => ob (opd G T y) fun y => storeA P t x y st) = _
  rw [hT.opd hx, hT.opd hy, ob_some, ob_some, h1]
 exact wd_step rfl (hS T hK _ _ _ _ _) rfl (fun e he => by cases he) (hr st1 h2)
end Go.Proofs.YtiknomepbklibaaGreatDoor
end
