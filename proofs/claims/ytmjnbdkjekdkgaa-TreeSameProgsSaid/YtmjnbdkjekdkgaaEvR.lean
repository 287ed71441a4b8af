/-
  The swift reckoner says no more than the reckoner does: regions, code, calls; the whole.
-/
import Derived.Test.YtmjnbdkjekdkgaaEvP
import Derived.Below
namespace Go.Proofs.Ytmjnbdkjekdkgaa
open Go Go.RowKit
set_option linter.unusedVariables false
set_option linter.unusedSimpArgs false

theorem inner_ok (P : Program) (G : Env) (N : Nat) (o : Oper) (p : Put) (hp : PutOk N o.dst p) : InOk P G N o (innerC P G o.op p).run := by
  have hbad : InOk P G N o badCI.run := in_bad P G N o
  obtain ⟨dst, op, ty, pos, after, guard⟩ := o
  have in_of' : ∀ {call : CallF} {T : Tr AV} {q : Q2} {st st' : St} {K : KB} {v : AV}, RelT T q → opF P (opd G T) call ⟨dst, op, ty, pos, after, guard⟩ st = some (v, st') → p q v K st' = true →
    ∃ v st' T' q', opF P (opd G T) call ⟨dst, op, ty, pos, after, guard⟩ st = some (v, st') ∧ (∀ (β : Type) (k : Tr AV → Option β), putF N dst v T k = k T') ∧ RelT T' q' ∧ K q' st' = true := fun hT ho h => in_of hp hT ho h
  cases op with
  | move x =>
    refine withG_ok (fun c : CI => InOk P G N _ c.run) hbad fun g hg => ?_
    intro call cc hc T q st K hT h
    exact in_of' hT (show ret (opd G T x) st = some (g q, st) by rw [hg T q hT]; rfl) h
  | assign x =>
    refine withG_ok (fun c : CI => InOk P G N _ c.run) hbad fun g hg => ?_
    intro call cc hc T q st K hT h
    exact in_of' hT (show ret (opd G T x) st = some (g q, st) by rw [hg T q hT]; rfl) h
  | pick c a b =>
    refine withG_ok (fun c : CI => InOk P G N _ c.run) hbad fun f hf => withG_ok (fun c : CI => InOk P G N _ c.run) hbad fun g hg => withG_ok (fun c : CI => InOk P G N _ c.run) hbad fun h' hh => ?_
    intro call cc hc T q st K hT h
    obtain ⟨t, ht, h⟩ := pickC_ok h
    refine in_of' hT (v := bif' t (g q) (h' q)) (st' := st) ?_ h
    show ob (opd G T c) _ = _
    rw [hf T q hT, ob_some, ht]
    show ret (bif' t (opd G T a) (opd G T b)) st = _
    rw [hg T q hT, hh T q hT]
    cases t <;> rfl
  | alloc t =>
    intro call cc hc T q st K hT h
    obtain ⟨⟨v, st'⟩, h1, h2⟩ := obB_eq h
    exact in_of' hT (show allocA P t st = some (v, st') from h1) h2
  | load t a =>
    refine part_ok (fun c : CI => InOk P G N _ c.run) hbad fun pt hpt => withG_ok (fun c : CI => InOk P G N _ c.run) hbad fun g hg => ?_
    intro call cc hc T q st K hT h
    obtain ⟨v, h1, h2⟩ := loadC_ok hpt h
    refine in_of' hT (v := v) (st' := st) ?_ h2
    show ob (opd G T a) _ = _
    rw [hg T q hT, ob_some]
    show ret (loadA P t (g q) st.h.get) st = _
    rw [h1]
    rfl
  | store t a v =>
    refine withG_ok (fun c : CI => InOk P G N _ c.run) hbad fun g hg => withG_ok (fun c : CI => InOk P G N _ c.run) hbad fun h' hh => ?_
    intro call cc hc T q st K hT h
    obtain ⟨⟨v', st'⟩, h1, h2⟩ := obB_eq h
    refine in_of' hT (v := v') (st' := st') ?_ h2
    show ob (opd G T a) _ = _
    rw [hg T q hT, ob_some]
    show ob (opd G T v) _ = _
    rw [hh T q hT, ob_some]
    exact h1
  | nilCheck x =>
    refine withG_ok (fun c : CI => InOk P G N _ c.run) hbad fun g hg => ?_
    intro call cc hc T q st K hT h
    obtain ⟨h1, h2⟩ := ncC_ok h
    refine in_of' hT (v := g q) (st' := st) ?_ h2
    show ret (ob (opd G T x) _) st = _
    rw [hg T q hT, ob_some]
    rcases h1 with ⟨c, m, off, e⟩ | ⟨f, a, c, e⟩ <;> (rw [e]; rfl)
  | binOp op t x y yt =>
    refine withG_ok (fun c : CI => InOk P G N _ c.run) hbad fun g hg => withG_ok (fun c : CI => InOk P G N _ c.run) hbad fun h' hh => ?_
    intro call cc hc T q st K hT h
    obtain ⟨v, h1, h2⟩ := binC_ok h
    refine in_of' hT (v := v) (st' := st) ?_ h2
    show ret (ob (opd G T x) fun x => ob (opd G T y) fun y => b2 P op t x y) st = _
    rw [hg T q hT, ob_some, hh T q hT, ob_some, h1]
    rfl
  | fieldAddr t x f =>
    refine withG_ok (fun c : CI => InOk P G N _ c.run) hbad fun g hg => ?_
    cases hf : fieldOff P t f with
    | none => exact hbad
    | some off =>
      show InOk P G N _ (CI.run (sNat off fun off => ⟨unR (faC off) g p⟩))
      rw [sNat_eq]
      intro call cc hc T q st K hT h
      obtain ⟨v, h1, h2⟩ := faC_ok hf h
      refine in_of' hT (v := v) (st' := st) ?_ h2
      show ret (ob (opd G T x) fun x => fieldAddrA P t x f) st = _
      rw [hg T q hT, ob_some, h1]
      rfl
  | indexAddr t x i =>
    refine withG_ok (fun c : CI => InOk P G N _ c.run) hbad fun g hg => withG_ok (fun c : CI => InOk P G N _ c.run) hbad fun h' hh => ?_
    intro call cc hc T q st K hT h
    obtain ⟨v, h1, h2⟩ := obB_eq h
    refine in_of' hT (v := v) (st' := st) ?_ h2
    show ret (ob (opd G T x) fun x => ob (opd G T i) fun i => indexAddrA P t x i) st = _
    rw [hg T q hT, ob_some, hh T q hT, ob_some, h1]
    rfl
  | index t x i =>
    refine withG_ok (fun c : CI => InOk P G N _ c.run) hbad fun g hg => withG_ok (fun c : CI => InOk P G N _ c.run) hbad fun h' hh => ?_
    intro call cc hc T q st K hT h
    obtain ⟨v, h1, h2⟩ := obB_eq h
    refine in_of' hT (v := v) (st' := st) ?_ h2
    show ret (ob (opd G T x) fun x => ob (opd G T i) fun i => indexA P t x i) st = _
    rw [hg T q hT, ob_some, hh T q hT, ob_some, h1]
    rfl
  | extract t i =>
    refine withG_ok (fun c : CI => InOk P G N _ c.run) hbad fun g hg => ?_
    intro call cc hc T q st K hT h
    obtain ⟨l, v, e, h1, h2⟩ := exC_ok h
    refine in_of' hT (v := v) (st' := st) ?_ h2
    show ret (ob (opd G T t) _) st = _
    rw [hg T q hT, ob_some, e]
    show ret (nth l i) st = _
    rw [h1]
    rfl
  | call c =>
    obtain ⟨callee, args, ats⟩ := c
    cases callee with
    | value f =>
      have key : ∀ (x : Operand) (gs : List (Q2 → AV)) (call : CallF) (T : Tr AV) (q : Q2) (st st' : St) (v : AV) (fid : FuncId) (a cap : List AV),
          mapO (opd G T) args.toList = some (gs.map fun g => g q) → opd G T x = some (.fn fid a cap) → call fid (appL a (appL (gs.map fun g => g q) cap)) st = some (v, st') →
          opF P (opd G T) call ⟨dst, .call ⟨.value x, args, ats⟩, ty, pos, after, guard⟩ st = some (v, st') := by
        intro x gs call T q st st' v fid a cap h1 h2 h3
        show ob (opd G T x) _ = _
        rw [h2, ob_some]
        show ob (mapO (opd G T) args.toList) _ = _
        rw [h1, ob_some]
        exact h3
      have gen : ∀ x : Operand, InOk P G N ⟨dst, .call ⟨.value x, args, ats⟩, ty, pos, after, guard⟩ (CI.run (withG G x badCI fun g => withGs G badCI args.toList fun gs => ⟨callvR g gs p⟩)) := by
        intro x
        refine withG_ok (fun c : CI => InOk P G N _ c.run) (in_bad P G N _) fun g hg => withGs_ok (fun c : CI => InOk P G N _ c.run) (in_bad P G N _) _ fun gs hgs => ?_
        intro call cc hc T q st K hT h
        replace h : rowG gs q (fun l => callV (g q) cc l st fun v st => p q v K st) = true := h
        rw [rowG_eq] at h
        cases hv : g q with
        | fn fid a cap =>
          rw [hv] at h
          replace h : cc fid (appL a (appL (gs.map fun g => g q) cap)) st (fun v st => p q v K st) = true := h
          obtain ⟨v, st', h1, h2⟩ := hc _ _ _ _ h
          exact in_of (o := ⟨dst, .call ⟨.value x, args, ats⟩, ty, pos, after, guard⟩) hp hT (key x gs call T q st st' v fid a cap (hgs T q hT) (by rw [hg T q hT, hv]) h1) h2
        | _ => rw [hv] at h; cases h
      cases f with
      | func f =>
        refine withGs_ok (fun c : CI => InOk P G N _ c.run) (in_bad P G N _) _ fun gs hgs => ?_
        intro call cc hc T q st K hT h
        replace h : rowG gs q (fun l => cc f l st fun v st => p q v K st) = true := h
        rw [rowG_eq] at h
        obtain ⟨v, st', h1, h2⟩ := hc _ _ _ _ h
        refine in_of hp hT (key (.func f) gs call T q st st' v f [] [] (hgs T q hT) rfl ?_) h2
        rw [appL_eq, appL_eq, List.append_nil, List.nil_append]
        exact h1
      | tmp t => exact gen _
      | const t => exact gen _
      | global t => exact gen _
    | invoke x s => exact hbad
    | builtin b =>
      have hgen : InOk P G N ⟨dst, .call ⟨.builtin b, args, ats⟩, ty, pos, after, guard⟩ (genR P G (.call ⟨.builtin b, args, ats⟩) p) := in_gen hp fun R call st => rfl
      cases b <;> try exact hgen
      show InOk P G N _ (CI.run (match args.toList with
        | x :: [] => withG G x badCI fun g => ⟨unR (lenC P ats.toList) g p⟩
        | _ => badCI))
      split
      · rename_i x hx
        refine withG_ok (fun c : CI => InOk P G N _ c.run) (in_bad P G N _) fun g hg => ?_
        intro call cc hc T q st K hT h
        obtain ⟨v, h1, h2⟩ := obB_eq h
        refine in_of hp hT (v := v) (st' := st) ?_ h2
        show biA P (opd G T) .len args.toList ats.toList st = _
        rw [hx]
        show ret (ob (opd G T x) fun x => lenA P ats.toList x) st = _
        rw [hg T q hT, ob_some, h1]
        rfl
      · exact in_bad P G N _
  | _ => exact in_gen hp fun R call st => rfl

/-! An operation with its guard. -/
def RunOk (P : Program) (G : Env) (N : Nat) (ops : List Oper) (o : Oper) (r : Run) : Prop := ∀ call cc, CallLaw cc call → ∀ T q st K, RelT T q → r cc K q st = true →
  ∃ v st' T' q', stepF P G call ops o T st = some (v, st') ∧ (∀ (β : Type) (k : Tr AV → Option β), putF N o.dst v T k = k T') ∧ RelT T' q' ∧ K q' st' = true
noncomputable def wantV (pol : Bool) (x : AV) : Bool := match x with
  | .bool b => bif' b pol (!pol)
  | _ => false
theorem wants_none {ops : List Oper} {o : Oper} {T : Tr AV} (h : o.guard = none) : wants ops o T = true := by unfold wants; rw [h]
theorem wants_some {ops : List Oper} {o : Oper} {T : Tr AV} {g : Nat × Bool} (h : o.guard = some g) {t : Nat} (ht : dstOf ops g.1 = some t) : wants ops o T = wantV g.2 (tget T t) := by
  unfold wants
  rw [h]
  simp only [ht]
  rfl
theorem wants_lost {ops : List Oper} {o : Oper} {T : Tr AV} {g : Nat × Bool} (h : o.guard = some g) (ht : dstOf ops g.1 = none) : wants ops o T = false := by
  unfold wants
  rw [h]
  simp only [ht]
theorem wantC_ok {x : AV} {pol a b : Bool} (h : wantC x pol a b = true) : wantV pol x = true ∧ a = true ∨ wantV pol x = false ∧ b = true := by
  cases x <;> first | exact .inr ⟨rfl, h⟩ | skip
  rename_i t
  cases t <;> cases pol <;> first | exact .inl ⟨rfl, h⟩ | exact .inr ⟨rfl, h⟩
/-- Wanted: it runs; else its temporary is emptied. -/
theorem guard_ok {P : Program} {G : Env} {N : Nat} {ops : List Oper} {o : Oper} {p : Put} {c : CI} (hp : PutOk N o.dst p) (X : (Tr AV → AV → Q2 → Prop)) (hX : ∀ call cc, CallLaw cc call → ∀ T q st K, RelT T q → c.run cc K q st = true →
    ∃ v st' T' q', opF P (opd G T) call o st = some (v, st') ∧ X T v q ∧ (∀ (β : Type) (k : Tr AV → Option β), putF N o.dst v T k = k T') ∧ RelT T' q' ∧ K q' st' = true) :
    ∀ call cc, CallLaw cc call → ∀ T q st K, RelT T q → (guardC ops o p c).run cc K q st = true →
    ∃ v st' T' q', stepF P G call ops o T st = some (v, st') ∧ (wants ops o T = true → X T v q) ∧ (∀ (β : Type) (k : Tr AV → Option β), putF N o.dst v T k = k T') ∧ RelT T' q' ∧ K q' st' = true := by
  have idle : ∀ (call : CallF) T q st K, RelT T q → wants ops o T = false → p q (.tup []) K st = true → ∃ v st' T' q', stepF P G call ops o T st = some (v, st') ∧ (wants ops o T = true → X T v q) ∧ (∀ (β : Type) (k : Tr AV → Option β), putF N o.dst v T k = k T') ∧ RelT T' q' ∧ K q' st' = true := by
    intro call T q st K hT hw h
    obtain ⟨T', q', h1, h2, h3⟩ := hp T q _ K st hT h
    exact ⟨.tup [], st, T', q', by unfold stepF; rw [hw]; rfl, fun h => (by rw [hw] at h; cases h), h1, h2, h3⟩
  have busy : ∀ (call : CallF) cc, CallLaw cc call → ∀ T q st K, RelT T q → wants ops o T = true → c.run cc K q st = true → ∃ v st' T' q', stepF P G call ops o T st = some (v, st') ∧ (wants ops o T = true → X T v q) ∧ (∀ (β : Type) (k : Tr AV → Option β), putF N o.dst v T k = k T') ∧ RelT T' q' ∧ K q' st' = true := by
    intro call cc hc T q st K hT hw h
    obtain ⟨v, st', T', q', h1, h2, h3⟩ := hX call cc hc T q st K hT h
    exact ⟨v, st', T', q', by unfold stepF; rw [hw]; exact h1, fun _ => h2, h3⟩
  unfold guardC
  split
  · rename_i hg
    intro call cc hc T q st K hT h
    exact busy call cc hc T q st K hT (wants_none hg) h
  · rename_i g hg
    split
    · rename_i t ht
      refine withTmp_ok (k := fun gt _ => ⟨grR gt g.2 c.run p⟩) (t := t) (fun c : CI => ∀ call cc, CallLaw cc call → ∀ T q st K, RelT T q → c.run cc K q st = true →
        ∃ v st' T' q', stepF P G call ops o T st = some (v, st') ∧ (wants ops o T = true → X T v q) ∧ (∀ (β : Type) (k : Tr AV → Option β), putF N o.dst v T k = k T') ∧ RelT T' q' ∧ K q' st' = true) (fun _ _ _ _ _ _ _ _ h => by cases h) fun gt _ hgt _ => ?_
      intro call cc hc T q st K hT h
      have hw : wants ops o T = wantV g.2 (getN t q) := by rw [wants_some hg ht, hT t]
      replace h : wantC (gt q) g.2 (c.run cc K q st) (p q (.tup []) K st) = true := h
      rw [hgt q] at h
      rcases wantC_ok h with ⟨h1, h2⟩ | ⟨h1, h2⟩
      · exact busy call cc hc T q st K hT (hw.trans h1) h2
      · exact idle call T q st K hT (hw.trans h1) h2
    · rename_i ht
      intro call cc hc T q st K hT h
      exact idle call T q st K hT (wants_lost hg ht) h
theorem comp_ok (P : Program) (G : Env) (N : Nat) (ops : List Oper) (o : Oper) : RunOk P G N ops o (compC P G N ops o).run := by
  refine withP_ok (fun c : CI => RunOk P G N ops o c.run) (fun _ _ _ _ _ _ _ _ h => by cases h) fun p hp => ?_
  intro call cc hc T q st K hT h
  obtain ⟨v, st', T', q', h1, _, h3⟩ := guard_ok hp (fun _ _ _ => True) (fun call cc hc T q st K hT h => by
    obtain ⟨v, st', T', q', h1, h2⟩ := inner_ok P G N o p hp call cc hc T q st K hT h
    exact ⟨v, st', T', q', h1, trivial, h2⟩) call cc hc T q st K hT h
  exact ⟨v, st', T', q', h1, h3⟩
theorem reg_ok (P : Program) (G : Env) (N : Nat) (ops : List Oper) {call : CallF} {cc : CallC} (hc : CallLaw cc call) (K : KB) : ∀ (l : List Oper) (T : Tr AV) (q : Q2) (st : St), RelT T q → regC (mapL (compC P G N ops) l) cc K q st = true →
    ∃ T' st' q', regS P G call N ops l T st = some (T', st') ∧ RelT T' q' ∧ K q' st' = true := by
  intro l
  induction l with
  | nil => intro T q st hT h; exact ⟨T, st, q, rfl, hT, h⟩
  | cons o l ih =>
    intro T q st hT h
    replace h : (compC P G N ops o).run cc (regC (mapL (compC P G N ops) l) cc K) q st = true := h
    obtain ⟨v, st', T', q', h1, h2, h3, h4⟩ := comp_ok P G N ops o call cc hc T q st _ hT h
    obtain ⟨T2, st2, q2, k1, k2, k3⟩ := ih T' q' st' h3 h4
    refine ⟨T2, st2, q2, ?_, k2, k3⟩
    show ob (stepF P G call ops o T st) _ = _
    rw [h1, ob_some, h2]
    exact k1

/-! A region that draws. -/
theorem loadA_of {P : Program} {t : TypeId} {pt : PartC} (hpt : ∀ l off kv, pt l off kv = true → ∃ v, partA P t l off = some v ∧ kv v = true) {x v : AV} : ∀ (n : Nat) (l : List St), againC pt x v n l = true →
    ∀ (G : Env) (o : Oper) (T : Tr AV) (a : Operand), o.op = .load t a → opd G T a = some x → again P G o T v n l = true := by
  intro n
  induction n with
  | zero => intro l h G o T a _ _; rfl
  | succ n ih =>
    intro l h G o T a ho ha
    cases l with
    | nil => cases h
    | cons st l =>
      replace h : bif' (loadC pt x st fun u => eqV u v) (againC pt x v n l) false = true := h
      cases hl : loadC pt x st fun u => eqV u v with
      | false => rw [hl] at h; cases h
      | true =>
        rw [hl] at h
        obtain ⟨u, h1, h2⟩ := loadC_ok hpt hl
        show bif' (match o.op with
          | .load t a => Option.rec false (fun x => Option.rec false (fun u => eqV u v) (loadA P t x st.h.get)) (opd G T a)
          | _ => false) (again P G o T v n l) false = true
        rw [ih l h G o T a ho ha, ho]
        show bif' (Option.rec false (fun x => Option.rec false (fun u => eqV u v) (loadA P t x st.h.get)) (opd G T a)) true false = true
        rw [ha]
        show bif' (Option.rec false (fun u => eqV u v) (loadA P t x st.h.get)) true false = true
        rw [h1]
        show bif' (eqV u v) true false = true
        rw [h2]
        rfl
/-- One step of a plan, in both. -/
def StepD (P : Program) (G : Env) (N : Nat) (ops : List Oper) (q : Nat × Oper × Nat) (d : DI) : Prop := ∀ call cc, CallLaw cc call → ∀ T e st sn (kk : List St → KB), RelT T e → DI.rec (motive := fun _ => (List St → KB) → CallC → List St → KB) dPlain dAct dRead d kk cc sn e st = true →
  ∃ v st' T' e', stepF P G call ops q.2.1 T st = some (v, st') ∧ bif' (wants ops q.2.1 T) (again P G q.2.1 T v q.2.2 (List.rec [] (fun _ t _ => t) sn)) true = true ∧
    (∀ (β : Type) (k : Tr AV → Option β), putF N q.2.1.dst v T k = k T') ∧ RelT T' e' ∧ kk (bif' (Nat.beq (kindA P q.2.1.op) 3) (st' :: sn) sn) e' st' = true
theorem stepD_ok (P : Program) (G : Env) (N : Nat) (ops : List Oper) (q : Nat × Oper × Nat) : StepD P G N ops q (compD P G N ops q) := by
  obtain ⟨i, o, n⟩ := q
  unfold compD
  cases hn : Nat.beq n 0 with
  | true =>
    have hn0 : n = 0 := Nat.eq_of_beq_eq_true hn
    subst hn0
    rw [bif_true]
    have agz : ∀ T v l, bif' (wants ops o T) (again P G o T v 0 l) true = true := fun T v l => by cases wants ops o T <;> rfl
    cases hk : Nat.beq (kindA P o.op) 3 with
    | true =>
      rw [bif_true]
      intro call cc hc T e st sn kk hT h
      obtain ⟨v, st', T', e', h1, h2, h3, h4⟩ := comp_ok P G N ops o call cc hc T e st _ hT h
      exact ⟨v, st', T', e', h1, agz _ _ _, h2, h3, by simp only [hk, bif_true]; exact h4⟩
    | false =>
      rw [bif_false]
      intro call cc hc T e st sn kk hT h
      obtain ⟨v, st', T', e', h1, h2, h3, h4⟩ := comp_ok P G N ops o call cc hc T e st _ hT h
      exact ⟨v, st', T', e', h1, agz _ _ _, h2, h3, by simp only [hk, bif_false]; exact h4⟩
  | false =>
    rw [bif_false]
    have nope : StepD P G N ops (i, o, n) (.plain badCI) := fun _ _ _ _ _ _ _ _ _ h => by cases h
    simp only
    split
    · rename_i t a ho
      intro call cc hc T e st sn kk hT h
      have hk : Nat.beq (kindA P o.op) 3 = false := by rw [ho]; rfl
      have key : ∀ call cc, CallLaw cc call → ∀ T e st K, RelT T e → CI.run (withP N o.dst fun p => guardC ops o p (withPart P t badCI fun pt => withG G a badCI fun g => ⟨rdR pt n g p sn⟩)) cc K e st = true →
          ∃ v st' T' e', stepF P G call ops o T st = some (v, st') ∧ (wants ops o T = true → again P G o T v n (List.rec [] (fun _ t _ => t) sn) = true) ∧ (∀ (β : Type) (k : Tr AV → Option β), putF N o.dst v T k = k T') ∧ RelT T' e' ∧ K e' st' = true := by
        refine withP_ok (fun c : CI => ∀ call cc, CallLaw cc call → ∀ T e st K, RelT T e → c.run cc K e st = true →
          ∃ v st' T' e', stepF P G call ops o T st = some (v, st') ∧ (wants ops o T = true → again P G o T v n (List.rec [] (fun _ t _ => t) sn) = true) ∧ (∀ (β : Type) (k : Tr AV → Option β), putF N o.dst v T k = k T') ∧ RelT T' e' ∧ K e' st' = true) (fun _ _ _ _ _ _ _ _ h => by cases h) fun p hp => ?_
        refine guard_ok hp (fun T v _ => again P G o T v n (List.rec [] (fun _ t _ => t) sn) = true) ?_
        refine part_ok (fun c : CI => ∀ call cc, CallLaw cc call → ∀ T q st K, RelT T q → c.run cc K q st = true →
          ∃ v st' T' q', opF P (opd G T) call o st = some (v, st') ∧ again P G o T v n (List.rec [] (fun _ t _ => t) sn) = true ∧ (∀ (β : Type) (k : Tr AV → Option β), putF N o.dst v T k = k T') ∧ RelT T' q' ∧ K q' st' = true) (fun _ _ _ _ _ _ _ _ h => by cases h) fun pt hpt => ?_
        refine withG_ok (fun c : CI => ∀ call cc, CallLaw cc call → ∀ T q st K, RelT T q → c.run cc K q st = true →
          ∃ v st' T' q', opF P (opd G T) call o st = some (v, st') ∧ again P G o T v n (List.rec [] (fun _ t _ => t) sn) = true ∧ (∀ (β : Type) (k : Tr AV → Option β), putF N o.dst v T k = k T') ∧ RelT T' q' ∧ K q' st' = true) (fun _ _ _ _ _ _ _ _ h => by cases h) fun g hg => ?_
        intro call cc hc T q st K hT h
        obtain ⟨v, h1, h2⟩ := loadC_ok hpt h
        cases hag : againC pt (g q) v n (List.rec [] (fun _ t _ => t) sn) with
        | false => rw [hag] at h2; cases h2
        | true =>
          rw [hag] at h2
          obtain ⟨T', q', k1, k2, k3⟩ := hp T q v K st hT h2
          refine ⟨v, st, T', q', ?_, loadA_of hpt n _ hag G o T a ho (hg T q hT), k1, k2, k3⟩
          unfold opF
          rw [ho]
          show ob (opd G T a) (fun x => ret (loadA P t x st.h.get) st) = _
          rw [hg T q hT, ob_some, h1]
          rfl
      obtain ⟨v, st', T', e', h1, h2, h3, h4, h5⟩ := key call cc hc T e st _ hT h
      refine ⟨v, st', T', e', h1, ?_, h3, h4, by simp only [hk, bif_false]; exact h5⟩
      show bif' (wants ops o T) (again P G o T v n (List.rec [] (fun _ t _ => t) sn)) true = true
      cases hw : wants ops o T with
      | false => rfl
      | true => exact h2 hw
    · exact nope
theorem need_true' {β : Type} (k : Option β) : need true k = k := rfl
theorem runD_ok (P : Program) (G : Env) (N : Nat) (ops : List Oper) {call : CallF} {cc : CallC} (hc : CallLaw cc call) (K : KB) : ∀ (l : List (Nat × Oper × Nat)) (T : Tr AV) (q : Q2) (st : St) (sn : List St), RelT T q → runD (mapL (compD P G N ops) l) cc K sn q st = true →
    ∃ T' st' q', regD P G call N ops l T st sn = some (T', st') ∧ RelT T' q' ∧ K q' st' = true := by
  intro l
  induction l with
  | nil => intro T q st sn hT h; exact ⟨T, st, q, rfl, hT, h⟩
  | cons o l ih =>
    intro T q st sn hT h
    obtain ⟨v, st', T', q', h1, h2, h3, h4, h5⟩ := stepD_ok P G N ops o call cc hc T q st sn (runD (mapL (compD P G N ops) l) cc K) hT h
    obtain ⟨T2, st2, q2, k1, k2, k3⟩ := ih T' q' st' _ h4 h5
    refine ⟨T2, st2, q2, ?_, k2, k3⟩
    show ob (stepF P G call ops o.2.1 T st) _ = _
    rw [h1, ob_some]
    show need (bif' (wants ops o.2.1 T) (again P G o.2.1 T v o.2.2 (List.rec [] (fun _ t _ => t) sn)) true) _ = _
    rw [h2, need_true', h3]
    exact k1

/-! Code. -/
def endOf (x : Ex) (E : Nat → KB) (R K : KB) : KB := match x with
  | .nor => K
  | .exit i => E i
  | .ret => R
def CodeOk (f : Tr AV → St → Option (Ex × Tr AV × St)) (call : CallF) (b : CodeB) : Prop := ∀ cc, CallLaw cc call → ∀ E R K T q st, RelT T q → b cc E R K q st = true → ∃ x T' st' q', f T st = some (x, T', st') ∧ RelT T' q' ∧ endOf x E R K q' st' = true
theorem toN_ofNat (n : Nat) : toN (Int.ofNat n) = some n := rfl
theorem range_ok {P : Program} {G : Env} {N L : Nat} {call : CallF} {a b : CC} {fa fb : Tr AV → St → Option (Ex × Tr AV × St)} {g : Operand} {x y : Tmp} {gg : Q2 → AV} {p1 p2 : Put} (hg : GetOk G g gg) (hp1 : PutOk N (some x) p1) (hp2 : PutOk N (some y) p2)
    (ha : CodeOk fa call (runK L a)) (hb : CodeOk fb call (runK L b)) {cc : CallC} (hc : CallLaw cc call) {E : Nat → KB} {R K : KB} {T : Tr AV} {q : Q2} {st : St} (hT : RelT T q) (h : runK L (.range (hdC P G) gg p1 p2 a b) cc E R K q st = true) :
    ∃ e T' st' q', rangeF P G N g [x, y] true fa fb T st = some (e, T', st') ∧ RelT T' q' ∧ endOf e E R K q' st' = true := by
  replace h : hdC P G (gg q) st (fun n el => Nat.rec (motive := fun _ => St → Bool) (fun st => K q st) (fun i ih st => el i st fun v => p1 q (.int .i64 (Int.ofNat i)) (fun T1 st => p2 T1 v (fun T2 st => runK L a cc (fun _ _ _ => false) (fun _ _ => false) (fun T3 st => runK L b cc (fun id _ st => E id q st) (fun _ st => R q st) (fun _ st => tl (ih st)) T3 st) T2 st) st) st) n st) = true := h
  unfold rangeF
  rw [hg T q hT, need_true', ob_some]
  unfold hdC at h
  split at h
  · rename_i f first cap hv
    rw [hv]
    replace h := obB_eq h
    obtain ⟨qq, hq, h⟩ := h
    simp only [hq, ob_some]
    split at h
    · split at h
      · rename_i cap
        replace h := obB_eq h
        obtain ⟨s, hs, h⟩ := h
        replace h := obB_eq h
        obtain ⟨nv, hl, h⟩ := h
        simp only [hs, ob_some, hl]
        split at h
        · rename_i k n
          cases n with
          | negSucc n => cases h
          | ofNat n =>
            simp only [toN_ofNat, ob_some]
            unfold hdN at h
            simp only at h
            cases hm : Nat.ble n i64most with
            | false => rw [hm] at h; cases h
            | true =>
              rw [hm] at h
              rw [need_true']
              simp only at h
              clear hl hs hm hv hq
              revert st
              induction n with
              | zero => intro st h; exact ⟨.nor, T, st, q, rfl, hT, h⟩
              | succ n ih =>
                intro st h
                replace h : elC P qq cap n st (fun v => p1 q (.int .i64 (Int.ofNat n)) (fun T1 st => p2 T1 v (fun T2 st => runK L a cc (fun _ _ _ => false) (fun _ _ => false) (fun T3 st => runK L b cc (fun id _ st => E id q st) (fun _ st => R q st) (fun _ st => tl (Nat.rec (motive := fun _ => St → Bool) (fun st => K q st) (fun i ih st => elC P qq cap i st fun v => p1 q (.int .i64 (Int.ofNat i)) (fun T1 st => p2 T1 v (fun T2 st => runK L a cc (fun _ _ _ => false) (fun _ _ => false) (fun T3 st => runK L b cc (fun id _ st => E id q st) (fun _ st => R q st) (fun _ st => tl (ih st)) T3 st) T2 st) st) st) n st)) T3 st) T2 st) st) st) = true := h
                unfold elC at h
                replace h := obB_eq h
                obtain ⟨s, hs, h⟩ := h
                replace h := obB_eq h
                obtain ⟨ad, had, h⟩ := h
                replace h := obB_eq h
                obtain ⟨v, hv, h⟩ := h
                obtain ⟨T1, q1, k1, r1, h⟩ := hp1 T q _ _ _ hT h
                obtain ⟨T2, q2, k2, r2, h⟩ := hp2 T1 q1 _ _ _ r1 h
                obtain ⟨e, T3, st3, q3, c1, r3, h⟩ := ha cc hc _ _ _ T2 q2 _ r2 h
                cases e with
                | exit i => cases h
                | ret => cases h
                | nor =>
                  obtain ⟨e, T4, st4, q4, c2, r4, h⟩ := hb cc hc _ _ _ T3 q3 _ r3 h
                  have e0 : backF P N qq.1 qq.2 cap [x, y] fa fb T (n + 1) st = Ex.rec (tl (backF P N qq.1 qq.2 cap [x, y] fa fb T n st4)) (fun id => some (.exit id, T, st4)) (some (.ret, T, st4)) e := by
                    show (ob (loadA P qq.1 cap st.h.get) fun s => ob (indexAddrA P qq.1 s (.int .i64 (Int.ofNat n))) fun q => ob (loadA P qq.2 q st.h.get) fun v => back1 N [x, y] (.int .i64 (Int.ofNat n)) v T fun T1 => ob (fa T1 st) fun r => Ex.rec (ob (fb r.2.1 r.2.2) fun q => Ex.rec (tl (backF P N qq.1 qq.2 cap [x, y] fa fb T n q.2.2)) (fun id => some (.exit id, T, q.2.2)) (some (.ret, T, q.2.2)) q.1) (fun _ => none) none r.1) = _
                    rw [hs, ob_some, had, ob_some, hv, ob_some]
                    show putF N (some x) _ T _ = _
                    rw [k1, k2, c1, ob_some]
                    show (ob (fb T3 st3) _) = _
                    rw [c2, ob_some]
                  cases e with
                  | nor =>
                    obtain ⟨e, T5, st5, q5, d1, d2, d3⟩ := ih h
                    exact ⟨e, T5, st5, q5, by rw [e0]; exact d1, d2, d3⟩
                  | exit id => exact ⟨.exit id, T, st4, q, e0, hT, h⟩
                  | ret => exact ⟨.ret, T, st4, q, e0, hT, h⟩
        · cases h
      · cases h
    · cases h
  · cases h
theorem code_ok (P : Program) (G : Env) (N L : Nat) (call : CallF) : ∀ c : Code, CodeOk (codeF P G call N L c) call (runK L (compK P G N c)) := by
  have nope : ∀ f, CodeOk f call (runK L .bad) := fun f _ _ _ _ _ _ _ _ _ h => by cases h
  intro c
  induction c with
  | skip => intro cc hc E R K T q st hT h; exact ⟨.nor, T, st, q, rfl, hT, h⟩
  | region id ops draw =>
    cases draw with
    | false =>
      intro cc hc E R K T q st hT h
      obtain ⟨T', st', q', h1, h2, h3⟩ := reg_ok P G N ops.toList hc K ops.toList T q st hT h
      refine ⟨.nor, T', st', q', ?_, h2, h3⟩
      show (ob (regS P G call N ops.toList ops.toList T st) fun r => some (Ex.nor, r)) = _
      rw [h1]
      rfl
    | true =>
      have e : compK P G N (.region id ops true) = Option.rec .bad (fun pl => .regD (mapL (compD P G N ops.toList) pl)) (planOf P ops.toList) := rfl
      rw [e]
      cases hpl : planOf P ops.toList with
      | none => exact nope _
      | some pl =>
        intro cc hc E R K T q st hT h
        obtain ⟨T', st', q', h1, h2, h3⟩ := runD_ok P G N ops.toList hc K pl T q st [st] hT h
        refine ⟨.nor, T', st', q', ?_, h2, h3⟩
        show (ob (planOf P ops.toList) fun pl => ob (regD P G call N ops.toList pl T st [st]) fun r => some (Ex.nor, r)) = _
        rw [hpl, ob_some, h1]
        rfl
  | seq a b ha hb =>
    intro cc hc E R K T q st hT h
    obtain ⟨x, T', st', q', h1, h2, h3⟩ := ha cc hc E R (runK L (compK P G N b) cc E R K) T q st hT h
    have e : codeF P G call N L (.seq a b) T st = thenF (codeF P G call N L a T st) (codeF P G call N L b) := rfl
    cases x with
    | nor =>
      obtain ⟨x, T2, st2, q2, k1, k2, k3⟩ := hb cc hc E R K T' q' st' h2 h3
      exact ⟨x, T2, st2, q2, by rw [e, h1]; exact k1, k2, k3⟩
    | exit i => exact ⟨.exit i, T', st', q', by rw [e, h1]; rfl, h2, h3⟩
    | ret => exact ⟨.ret, T', st', q', by rw [e, h1]; rfl, h2, h3⟩
  | cond c a b ha hb =>
    show CodeOk _ call (runK L (withG G c .bad fun g => .cond g (compK P G N a) (compK P G N b)))
    refine withG_ok (fun d : CC => CodeOk (codeF P G call N L (.cond c a b)) call (runK L d)) (nope _) fun g hg => ?_
    intro cc hc E R K T q st hT h
    replace h : condC (g q) (runK L (compK P G N a) cc E R K) (runK L (compK P G N b) cc E R K) q st = true := h
    have e : codeF P G call N L (.cond c a b) T st = condF (opd G T c) (codeF P G call N L a T st) (codeF P G call N L b T st) := rfl
    rw [hg T q hT] at e
    cases hv : g q with
    | bool t =>
      rw [hv] at h e
      cases t with
      | true =>
        obtain ⟨x, T', st', q', h1, h2, h3⟩ := ha cc hc E R K T q st hT h
        exact ⟨x, T', st', q', by rw [e]; exact h1, h2, h3⟩
      | false =>
        obtain ⟨x, T', st', q', h1, h2, h3⟩ := hb cc hc E R K T q st hT h
        exact ⟨x, T', st', q', by rw [e]; exact h1, h2, h3⟩
    | _ => rw [hv] at h; cases h
  | block id b hb =>
    intro cc hc E R K T q st hT h
    obtain ⟨x, T', st', q', h1, h2, h3⟩ := hb cc hc (fun i => bif' (Nat.beq i id) K (E i)) R K T q st hT h
    have e : codeF P G call N L (.block id b) T st = blockF id (codeF P G call N L b T st) := rfl
    cases x with
    | nor => exact ⟨.nor, T', st', q', by rw [e, h1]; rfl, h2, h3⟩
    | ret => exact ⟨.ret, T', st', q', by rw [e, h1]; rfl, h2, h3⟩
    | exit i =>
      replace h3 : bif' (Nat.beq i id) K (E i) q' st' = true := h3
      cases hi : Nat.beq i id with
      | true => rw [hi] at h3; exact ⟨.nor, T', st', q', by rw [e, h1]; show bif' (Nat.beq i id) _ _ = _; rw [hi]; rfl, h2, h3⟩
      | false => rw [hi] at h3; exact ⟨.exit i, T', st', q', by rw [e, h1]; show bif' (Nat.beq i id) _ _ = _; rw [hi]; rfl, h2, h3⟩
  | loop b hb =>
    intro cc hc E R K T q st hT h
    have key : ∀ n T q st, RelT T q → Nat.rec (motive := fun _ => KB) (fun _ _ => false) (fun _ ih => runK L (compK P G N b) cc E R ih) n q st = true →
        ∃ x T' st' q', Nat.rec (motive := fun _ => Tr AV → St → Option (Ex × Tr AV × St)) (fun _ _ => none) (fun _ ih T st => thenF (codeF P G call N L b T st) ih) n T st = some (x, T', st') ∧ RelT T' q' ∧ endOf x E R K q' st' = true := by
      intro n
      induction n with
      | zero => intro T q st hT h; cases h
      | succ n ih =>
        intro T q st hT h
        obtain ⟨x, T', st', q', h1, h2, h3⟩ := hb cc hc E R _ T q st hT h
        cases x with
        | nor =>
          obtain ⟨x, T2, st2, q2, k1, k2, k3⟩ := ih T' q' st' h2 h3
          refine ⟨x, T2, st2, q2, ?_, k2, k3⟩
          show thenF (codeF P G call N L b T st) _ = _
          rw [h1]
          exact k1
        | exit i => exact ⟨.exit i, T', st', q', by show thenF (codeF P G call N L b T st) _ = _; rw [h1]; rfl, h2, h3⟩
        | ret => exact ⟨.ret, T', st', q', by show thenF (codeF P G call N L b T st) _ = _; rw [h1]; rfl, h2, h3⟩
    exact key L T q st hT h
  | rangeFunc g ps a b ha hb =>
    show CodeOk _ call (runK L (compR P G N g ps.toList (bif' (plainC a) (plainC b) false) (compK P G N a) (compK P G N b)))
    have e : codeF P G call N L (.rangeFunc g ps a b) = rangeF P G N g ps.toList (bif' (plainC a) (plainC b) false) (codeF P G call N L a) (codeF P G call N L b) := rfl
    rw [e]
    unfold compR
    split
    · rename_i x y hps
      rw [hps]
      cases hpl : bif' (plainC a) (plainC b) false with
      | false => exact nope _
      | true =>
        refine withG_ok (fun d : CC => CodeOk _ call (runK L d)) (nope _) fun gg hg => ?_
        refine withPB_ok (fun d : CC => CodeOk _ call (runK L d)) (nope _) fun p1 hp1 => ?_
        refine withPB_ok (fun d : CC => CodeOk _ call (runK L d)) (nope _) fun p2 hp2 => ?_
        intro cc hc E R K T q st hT h
        exact range_ok hg hp1 hp2 ha hb hc hT h
    · exact nope _
  | exit id => intro cc hc E R K T q st hT h; exact ⟨.exit id, T, st, q, rfl, hT, h⟩
  | ret => intro cc hc E R K T q st hT h; exact ⟨.ret, T, st, q, rfl, hT, h⟩
  | label id => intro cc hc E R K T q st hT h; exact ⟨.nor, T, st, q, rfl, hT, h⟩
  | _ => exact nope _

/-! Calls. -/
theorem args_ok : ∀ (l : List AV) (i : Nat) (T : Tr AV) (q : Q2) (K : KB) (st : St), RelT T q → argsC l i q K st = true → ∃ T' q', (∀ (β : Type) (k : Tr AV → β), List.rec (motive := fun _ => Nat → Tr AV → β) (fun (_ : Nat) T => k T) (fun v _ ih i T => T.put i v (ih (i + 1))) l i T = k T') ∧ RelT T' q' ∧ K q' st = true := by
  intro l
  induction l with
  | nil => intro i T q K st hT h; exact ⟨T, q, fun _ _ => rfl, hT, h⟩
  | cons v l ih =>
    intro i T q K st hT h
    replace h : (putAt i).put q v (fun T st => argsC l (Nat.succ i) T K st) st = true := h
    have key : ∀ q K st, (putAt i).put q v K st = true → ∃ q', K q' st = true ∧ ∀ u, getN u q' = if u = i then v else getN u q := by
      refine withTmp_ok (k := fun _ p => PutBox.mk p) (t := i) (fun b : PutBox => ∀ q K st, b.put q v K st = true → ∃ q', K q' st = true ∧ ∀ u, getN u q' = if u = i then v else getN u q) (fun _ _ _ h => by cases h) fun g p _ hp => ?_
      intro q K st h
      obtain ⟨q', e, hq⟩ := hp q v K st
      exact ⟨q', by rw [← e]; exact h, hq⟩
    obtain ⟨q', h1, h2⟩ := key q _ st h
    obtain ⟨T', q2, k1, k2, k3⟩ := ih (i + 1) (T.set i v) q' K st (fun u => by rw [tget_set, h2, hT u]) h1
    refine ⟨T', q2, fun β k => ?_, k2, k3⟩
    show T.put i v _ = _
    rw [Tr.put_eq]
    exact k1 β k
theorem zero_rel : RelT .nil .zero := by
  intro t
  have e : tget .nil t = .tup [] := rfl
  rw [e]
  unfold getN
  split
  · rename_i i _
    split
    · rename_i j _
      cases i <;> cases j <;> rfl
    · rfl
  · rfl
theorem res_ok {P : Program} {T : Tr AV} {q : Q2} {st : St} (hT : RelT T q) {r : ResultVar} {k : KV} (h : resC P q st r k = true) : ∃ v, resF P T st r = some v ∧ k v = true := by
  cases r with
  | tmp t => exact ⟨getN t q, congrArg some (hT t), h⟩
  | cell a t =>
    obtain ⟨v, h1, h2⟩ := obB_eq h
    exact ⟨v, by show loadA P t (tget T a) st.h.get = _; rw [hT a]; exact h1, h2⟩
theorem resultsC_ok {P : Program} {T : Tr AV} {q : Q2} {st : St} (hT : RelT T q) : ∀ (l : List ResultVar) (k : List AV → Bool), resultsC P l q st k = true → ∃ vs, mapO (resF P T st) l = some vs ∧ k vs = true := by
  intro l
  induction l with
  | nil => intro k h; exact ⟨[], rfl, h⟩
  | cons r l ih =>
    intro k h
    replace h : resC P q st r (fun v => resultsC P l q st fun l => k (v :: l)) = true := h
    obtain ⟨v, h1, h⟩ := res_ok hT h
    obtain ⟨vs, h2, h⟩ := ih _ h
    exact ⟨v :: vs, by rw [mapO_cons, h1, ob_some, h2, ob_some], h⟩
theorem end_ok {P : Program} {res : List ResultVar} {T : Tr AV} {q : Q2} {st : St} (hT : RelT T q) {k : AV → St → Bool} (h : endK P res k q st = true) : ∃ v, resultsF P res T st = some v ∧ k v st = true := by
  obtain ⟨vs, h1, h2⟩ := resultsC_ok hT res _ h
  refine ⟨_, ?_, h2⟩
  unfold resultsF
  rw [h1, ob_some]
  cases vs with
  | nil => rfl
  | cons v t => cases t <;> rfl
theorem call_law (P : Program) (G : Env) (L : Nat) : ∀ fuel, CallLaw (callC P G L fuel) (callF P G L fuel) := by
  intro fuel
  induction fuel with
  | zero => intro f args st k h; cases h
  | succ n ih =>
    intro f args st k h
    replace h : (Option.rec (obB (compF P G f) fun q => tl (callB P L q (callC P G L n) args st k)) (fun sm => obB (sm args st) fun r => k r.1 r.2) (G.s f) : Bool) = true := h
    have e0 : callF P G L (n + 1) f args st = (Option.rec (ob (fnOf P f) fun q => need (Nat.ble (lenL args) q.2.1) (argsF args fun T => endF (codeF P G (callF P G L n) q.2.1 L q.1 T st) fun T st => ob (resultsF P q.2.2 T st) fun v => some (v, st))) (fun sm => sm args st) (G.s f) : Option (AV × St)) := rfl
    rw [e0]
    cases hsm : G.s f with
    | some sm =>
      rw [hsm] at h
      obtain ⟨⟨v, st'⟩, h1, h2⟩ := obB_eq h
      exact ⟨v, st', h1, h2⟩
    | none =>
    rw [hsm] at h
    obtain ⟨fn, h1, h⟩ := obB_eq h
    replace h : callB P L fn (callC P G L n) args st k = true := h
    replace h1 := ob_eq h1
    obtain ⟨q, hq, h1⟩ := h1
    obtain ⟨_, h1⟩ := need_eq h1
    injection h1 with h1
    subst h1
    show ∃ v st', (ob (fnOf P f) fun q => need (Nat.ble (lenL args) q.2.1) (argsF args fun T => endF (codeF P G (callF P G L n) q.2.1 L q.1 T st) fun T st => ob (resultsF P q.2.2 T st) fun v => some (v, st))) = some (v, st') ∧ k v st' = true
    rw [hq, ob_some]
    unfold callB at h
    simp only at h
    cases hb : Nat.ble (lenL args) q.2.1 with
    | false => rw [hb] at h; cases h
    | true =>
      rw [hb] at h
      rw [need_true']
      obtain ⟨T, q1, k1, k2, k3⟩ := args_ok args 0 .nil .zero _ st zero_rel h
      have e : ∀ (β : Type) (k : Tr AV → β), argsF args k = k T := fun β k => k1 β k
      rw [e]
      obtain ⟨x, T', st', q', c1, c2, c3⟩ := code_ok P G q.2.1 L (callF P G L n) q.1 (callC P G L n) ih _ _ _ T q1 st k2 k3
      rw [c1]
      cases x with
      | exit i => cases c3
      | nor =>
        obtain ⟨v, r1, r2⟩ := end_ok c2 c3
        refine ⟨v, st', ?_, r2⟩
        show ob (resultsF P q.2.2 T' st') _ = _
        rw [r1]
        rfl
      | ret =>
        obtain ⟨v, r1, r2⟩ := end_ok c2 c3
        refine ⟨v, st', ?_, r2⟩
        show ob (resultsF P q.2.2 T' st') _ = _
        rw [r1]
        rfl

/-- A closed call that the swift reckoner finds true is true, and leaves what lay there. -/
theorem swift_true {P : Program} {G : Env} (hG0 : ∀ g, G.g g = false) (hE : EnvOk P G) (hm : P.follows .mixedOrders = true) {f : FuncId} {args : List AV} {L fuel n : Nat} (hargs : WFL (Tr.nil : Tr Cls).get args) (h : callC P G L fuel f args ⟨n, .nil⟩ truthC = true) (w : World) :
    Calls P f (concL (fun _ _ => none) args).toArray w fun e w' => e = .returned (.bool true) ∧ Below w.heap.size w w' := by
  obtain ⟨v, st', h1, h2⟩ := call_law P _ L fuel f args _ _ h
  refine closed_true hG0 hE hm hargs (L := L) (fuel := fuel) (n := n) ?_ w
  rw [h1]
  cases v <;> first | exact h2 | cases h2

end Go.Proofs.Ytmjnbdkjekdkgaa
