/-
  Calls with open arguments, by the reckoner: more rounds and more depth change nothing.
-/
import Derived.Test.YtmjnbdkjekdkgaaEvU
namespace Go.Proofs.Ytmjnbdkjekdkgaa
open Go
set_option linter.unusedVariables false
set_option linter.unusedSimpArgs false

/-- What one finds the other finds too. -/
def CLe (c c' : CallF) : Prop := ∀ f args st r, c f args st = some r → c' f args st = some r
theorem ob_mono {α β : Type} {x : Option α} {k k' : α → Option β} {r : β} (h : ob x k = some r) (hk : ∀ a, x = some a → k a = some r → k' a = some r) : ob x k' = some r := by
  obtain ⟨a, ha, h⟩ := ob_eq h
  rw [ha]
  exact hk a ha h
theorem need_mono {β : Type} {b : Bool} {k k' : Option β} {r : β} (h : need b k = some r) (hk : k = some r → k' = some r) : need b k' = some r := by
  obtain ⟨hb, h⟩ := need_eq h
  subst hb
  exact hk h
variable {P : Program} {G : Env}
theorem opF_mono {R : Operand → Option AV} {c c' : CallF} (hc : CLe c c') {o : Oper} {st : St} {r : AV × St} (h : opF P R c o st = some r) : opF P R c' o st = some r := by
  obtain ⟨dst, op, ty, pos, af, g⟩ := o
  cases op with
  | call cl =>
    obtain ⟨callee, args, tys⟩ := cl
    cases callee with
    | value f =>
      have h : (ob (R f) fun v => (match v with
        | .fn fid a cap => ob (mapO R args.toList) fun l => c fid (appL a (appL l cap)) st
        | _ => none)) = some r := h
      show (ob (R f) fun v => (match v with
        | .fn fid a cap => ob (mapO R args.toList) fun l => c' fid (appL a (appL l cap)) st
        | _ => none)) = some r
      refine ob_mono h fun v _ h => ?_
      cases v with
      | fn fid a cap => exact ob_mono h fun l _ h => hc _ _ _ _ h
      | _ => cases h
    | _ => exact h
  | _ => exact h
theorem stepF_mono {c c' : CallF} (hc : CLe c c') {ops : List Oper} {o : Oper} {T : Tr AV} {st : St} {r : AV × St} (h : stepF P G c ops o T st = some r) : stepF P G c' ops o T st = some r := by
  unfold stepF at h ⊢
  cases hw : wants ops o T with
  | true => rw [hw] at h; exact opF_mono hc h
  | false => rw [hw] at h; exact h
theorem putF_mono {β : Type} {N : Nat} {d : Option Nat} {v : AV} {T : Tr AV} {k k' : Tr AV → Option β} {r : β} (h : putF N d v T k = some r) (hk : ∀ T, k T = some r → k' T = some r) : putF N d v T k' = some r := by
  cases d with
  | none => exact hk _ h
  | some t =>
    have h : need (Nat.ble (t + 1) N) (T.put t v k) = some r := h
    show need (Nat.ble (t + 1) N) (T.put t v k') = some r
    refine need_mono h fun h => ?_
    rw [Tr.put_eq] at h ⊢
    exact hk _ h
theorem regS_mono {c c' : CallF} (hc : CLe c c') {N : Nat} {ops : List Oper} : ∀ (l : List Oper) (T : Tr AV) (st : St) (r : Tr AV × St), regS P G c N ops l T st = some r → regS P G c' N ops l T st = some r := by
  intro l
  induction l with
  | nil => intro T st r h; exact h
  | cons o l ih =>
    intro T st r h
    have h : (ob (stepF P G c ops o T st) fun r => putF N o.dst r.1 T fun T => tl (regS P G c N ops l T r.2)) = some r := h
    show (ob (stepF P G c' ops o T st) fun r => putF N o.dst r.1 T fun T => tl (regS P G c' N ops l T r.2)) = some r
    obtain ⟨a, ha, h⟩ := ob_eq h
    rw [stepF_mono hc ha, ob_some]
    exact putF_mono h fun T h => ih T a.2 r h
theorem regD_mono {c c' : CallF} (hc : CLe c c') {N : Nat} {ops : List Oper} : ∀ (l : List (Nat × Oper × Nat)) (T : Tr AV) (st : St) (sn : List St) (r : Tr AV × St), regD P G c N ops l T st sn = some r → regD P G c' N ops l T st sn = some r := by
  intro l
  induction l with
  | nil => intro T st sn r h; exact h
  | cons q l ih =>
    intro T st sn r h
    have h : (ob (stepF P G c ops q.2.1 T st) fun r => need (bif' (wants ops q.2.1 T) (again P G q.2.1 T r.1 q.2.2 (List.rec [] (fun _ t _ => t) sn)) true)
      (putF N q.2.1.dst r.1 T fun T => tl (regD P G c N ops l T r.2 (bif' (Nat.beq (kindA P q.2.1.op) 3) (r.2 :: sn) sn)))) = some r := h
    show (ob (stepF P G c' ops q.2.1 T st) fun r => need (bif' (wants ops q.2.1 T) (again P G q.2.1 T r.1 q.2.2 (List.rec [] (fun _ t _ => t) sn)) true)
      (putF N q.2.1.dst r.1 T fun T => tl (regD P G c' N ops l T r.2 (bif' (Nat.beq (kindA P q.2.1.op) 3) (r.2 :: sn) sn)))) = some r
    obtain ⟨a, ha, h⟩ := ob_eq h
    rw [stepF_mono hc ha, ob_some]
    refine need_mono h fun h => putF_mono h fun T h => ih T a.2 _ r h
theorem thenF_mono {r : Option (Ex × Tr AV × St)} {k k' : Tr AV → St → Option (Ex × Tr AV × St)} {x : Ex × Tr AV × St} (h : thenF r k = some x) (hk : ∀ T st, k T st = some x → k' T st = some x) : thenF r k' = some x := by
  rcases thenF_eq h with ⟨T, st, h1, h2⟩ | ⟨h1, h2⟩
  · rw [h1]; exact hk T st h2
  · rw [h1]
    obtain ⟨e, T, st⟩ := x
    cases e with
    | nor => exact absurd rfl h2
    | exit i => rfl
    | ret => rfl
theorem loopF_mono {f f' : Tr AV → St → Option (Ex × Tr AV × St)} (hf : ∀ T st r, f T st = some r → f' T st = some r) : ∀ (L L' : Nat), L ≤ L' → ∀ T st r, loopF L f T st = some r → loopF L' f' T st = some r := by
  intro L
  induction L with
  | zero => intro L' _ T st r h; cases h
  | succ L ih =>
    intro L' hL T st r h
    obtain ⟨M, rfl⟩ : ∃ M, L' = M + 1 := ⟨L' - 1, by omega⟩
    have h : thenF (f T st) (loopF L f) = some r := h
    show thenF (f' T st) (loopF M f') = some r
    rcases thenF_eq h with ⟨T1, st1, h1, h2⟩ | ⟨h1, h2⟩
    · rw [hf _ _ _ h1]; exact ih M (by omega) _ _ _ h2
    · rw [hf _ _ _ h1]
      obtain ⟨e, T, st⟩ := r
      cases e with
      | nor => exact absurd rfl h2
      | exit i => rfl
      | ret => rfl
theorem backF_mono {N : Nat} {ts te : TypeId} {cap : AV} {ps : List Tmp} {fa fb fa' fb' : Tr AV → St → Option (Ex × Tr AV × St)} (ha : ∀ T st r, fa T st = some r → fa' T st = some r) (hb : ∀ T st r, fb T st = some r → fb' T st = some r) {T : Tr AV} :
    ∀ (n : Nat) (st : St) (r : Ex × Tr AV × St), backF P N ts te cap ps fa fb T n st = some r → backF P N ts te cap ps fa' fb' T n st = some r := by
  intro n
  induction n with
  | zero => intro st r h; exact h
  | succ n ih =>
    intro st r h
    have h : (ob (loadA P ts cap st.h.get) fun s => ob (indexAddrA P ts s (.int .i64 (Int.ofNat n))) fun q => ob (loadA P te q st.h.get) fun v =>
      back1 N ps (.int .i64 (Int.ofNat n)) v T fun T1 => ob (fa T1 st) fun r => Ex.rec (ob (fb r.2.1 r.2.2) fun q => Ex.rec (tl (backF P N ts te cap ps fa fb T n q.2.2)) (fun id => some (.exit id, T, q.2.2)) (some (.ret, T, q.2.2)) q.1) (fun _ => none) none r.1) = some r := h
    show (ob (loadA P ts cap st.h.get) fun s => ob (indexAddrA P ts s (.int .i64 (Int.ofNat n))) fun q => ob (loadA P te q st.h.get) fun v =>
      back1 N ps (.int .i64 (Int.ofNat n)) v T fun T1 => ob (fa' T1 st) fun r => Ex.rec (ob (fb' r.2.1 r.2.2) fun q => Ex.rec (tl (backF P N ts te cap ps fa' fb' T n q.2.2)) (fun id => some (.exit id, T, q.2.2)) (some (.ret, T, q.2.2)) q.1) (fun _ => none) none r.1) = some r
    refine ob_mono h fun s _ h => ob_mono h fun q _ h => ob_mono h fun v _ h => ?_
    unfold back1 at h ⊢
    split at h
    · refine putF_mono h fun T h => putF_mono h fun T h => ?_
      obtain ⟨⟨e1, T2, st2⟩, h1, h⟩ := ob_eq h
      rw [ha _ _ _ h1, ob_some]
      cases e1 with
      | exit i => cases h
      | ret => cases h
      | nor =>
        obtain ⟨⟨e, T3, st3⟩, h2, h⟩ := ob_eq h
        show (ob (fb' T2 st2) _) = _
        rw [hb _ _ _ h2, ob_some]
        cases e with
        | nor => exact ih _ _ h
        | exit i => exact h
        | ret => exact h
    · cases h
theorem code_mono {c c' : CallF} (hc : CLe c c') {N L L' : Nat} (hL : L ≤ L') : ∀ (k : Code) (T : Tr AV) (st : St) (r : Ex × Tr AV × St), codeF P G c N L k T st = some r → codeF P G c' N L' k T st = some r := by
  intro k
  induction k with
  | region id ops draw =>
    intro T st r h
    cases draw with
    | true =>
      have h : (ob (planOf P ops.toList) fun pl => ob (regD P G c N ops.toList pl T st [st]) fun r => some (Ex.nor, r)) = some r := h
      show (ob (planOf P ops.toList) fun pl => ob (regD P G c' N ops.toList pl T st [st]) fun r => some (Ex.nor, r)) = some r
      refine ob_mono h fun pl _ h => ?_
      obtain ⟨a, ha, h⟩ := ob_eq h
      rw [regD_mono hc _ _ _ _ _ ha]
      exact h
    | false =>
      have h : (ob (regS P G c N ops.toList ops.toList T st) fun r => some (Ex.nor, r)) = some r := h
      show (ob (regS P G c' N ops.toList ops.toList T st) fun r => some (Ex.nor, r)) = some r
      obtain ⟨a, ha, h⟩ := ob_eq h
      rw [regS_mono hc _ _ _ _ ha]
      exact h
  | seq x y ihx ihy =>
    intro T st r h
    have h : thenF (codeF P G c N L x T st) (codeF P G c N L y) = some r := h
    show thenF (codeF P G c' N L' x T st) (codeF P G c' N L' y) = some r
    rcases thenF_eq h with ⟨T1, st1, h1, h2⟩ | ⟨h1, h2⟩
    · rw [ihx _ _ _ h1]; exact ihy _ _ _ h2
    · rw [ihx _ _ _ h1]
      obtain ⟨e, T, st⟩ := r
      cases e with
      | nor => exact absurd rfl h2
      | exit i => rfl
      | ret => rfl
  | cond g x y ihx ihy =>
    intro T st r h
    have h : condF (opd G T g) (tl (codeF P G c N L x T st)) (tl (codeF P G c N L y T st)) = some r := h
    show condF (opd G T g) (tl (codeF P G c' N L' x T st)) (tl (codeF P G c' N L' y T st)) = some r
    refine ob_mono h fun v _ h => ?_
    cases v with
    | bool b =>
      cases b with
      | true => exact ihx _ _ _ h
      | false => exact ihy _ _ _ h
    | _ => cases h
  | block id x ih =>
    intro T st r h
    have h : blockF id (codeF P G c N L x T st) = some r := h
    show blockF id (codeF P G c' N L' x T st) = some r
    obtain ⟨a, ha, h⟩ := ob_eq h
    rw [ih _ _ _ ha]
    exact h
  | loop x ih => intro T st r h; exact loopF_mono ih L L' hL T st r h
  | rangeFunc g ps a b iha ihb =>
    intro T st r h
    have h : rangeF P G N g ps.toList (bif' (plainC a) (plainC b) false) (codeF P G c N L a) (codeF P G c N L b) T st = some r := h
    show rangeF P G N g ps.toList (bif' (plainC a) (plainC b) false) (codeF P G c' N L' a) (codeF P G c' N L' b) T st = some r
    unfold rangeF at h ⊢
    refine need_mono h fun h => ob_mono h fun v _ h => ?_
    split at h
    · refine ob_mono h fun q _ h => ?_
      split at h
      · split at h
        · refine ob_mono h fun s _ h => ob_mono h fun n _ h => ?_
          split at h
          · exact ob_mono h fun n _ h => need_mono h fun h => backF_mono iha ihb _ _ _ h
          · cases h
        · cases h
      · cases h
    · cases h
  | _ => intro T st r h; exact h
/-- Arguments are the first temporaries, whatever follows. -/
theorem argsF_uni : ∀ (l : List AV) (i : Nat) (T : Tr AV), (∀ t, i ≤ t → tget T t = .tup []) → ∃ T', (∀ (β : Type) (k : Tr AV → β), List.rec (motive := fun _ => Nat → Tr AV → β) (fun (_ : Nat) T => k T) (fun v _ ih i T => T.put i v (ih (i + 1))) l i T = k T') ∧
    ∀ t, tget T' t = if t < i then tget T t else (l[t - i]?).getD (.tup []) := by
  intro l
  induction l with
  | nil =>
    intro i T hT
    refine ⟨T, fun _ _ => rfl, fun t => ?_⟩
    by_cases h : t < i
    · rw [if_pos h]
    · rw [if_neg h, hT t (by omega)]; simp
  | cons v l ih =>
    intro i T hT
    obtain ⟨T', h1, h2⟩ := ih (i + 1) (T.set i v) fun t ht => by rw [tget_set, if_neg (by omega)]; exact hT t (by omega)
    refine ⟨T', fun β k => ?_, fun t => ?_⟩
    · show T.put i v _ = _
      rw [Tr.put_eq]
      exact h1 β k
    · rw [h2, tget_set]
      by_cases h : t < i
      · rw [if_pos (by omega), if_neg (by omega), if_pos h]
      · rw [if_neg h]
        by_cases h3 : t = i
        · subst h3; rw [if_pos (by omega), if_pos rfl]; simp
        · rw [if_neg (by omega), show t - i = (t - (i + 1)) + 1 by omega]; simp
theorem argsF_all (l : List AV) : ∃ T, (∀ (β : Type) (k : Tr AV → β), argsF l k = k T) ∧ ∀ t, tget T t = (l[t]?).getD (.tup []) := by
  obtain ⟨T, h1, h2⟩ := argsF_uni l 0 .nil fun t _ => rfl
  exact ⟨T, h1, fun t => by rw [h2, if_neg (by omega), Nat.sub_zero]⟩
theorem callF_mono : ∀ (n m L L' : Nat), n ≤ m → L ≤ L' → CLe (callF P G L n) (callF P G L' m) := by
  intro n
  induction n with
  | zero => intro m L L' _ _ f args st r h; cases h
  | succ n ih =>
    intro m L L' hnm hL f args st r h
    obtain ⟨k, rfl⟩ : ∃ k, m = k + 1 := ⟨m - 1, by omega⟩
    have h : (Option.rec (ob (fnOf P f) fun q => need (Nat.ble (lenL args) q.2.1) (argsF args fun T => endF (codeF P G (callF P G L n) q.2.1 L q.1 T st) fun T st => ob (resultsF P q.2.2 T st) fun v => some (v, st))) (fun sm => sm args st) (G.s f) : Option (AV × St)) = some r := h
    show (Option.rec (ob (fnOf P f) fun q => need (Nat.ble (lenL args) q.2.1) (argsF args fun T => endF (codeF P G (callF P G L' k) q.2.1 L' q.1 T st) fun T st => ob (resultsF P q.2.2 T st) fun v => some (v, st))) (fun sm => sm args st) (G.s f) : Option (AV × St)) = some r
    cases hs : G.s f with
    | some sm => rw [hs] at h; exact h
    | none =>
      rw [hs] at h
      refine ob_mono h fun q _ h => need_mono h fun h => ?_
      obtain ⟨T, h1, _⟩ := argsF_all args
      rw [h1] at h ⊢
      obtain ⟨⟨e, T2, st2⟩, hc, h⟩ := ob_eq h
      have hc' := code_mono (ih k L L' (by omega) hL) hL q.1 T st _ hc
      show endF (codeF P G (callF P G L' k) q.2.1 L' q.1 T st) _ = _
      rw [hc']
      exact h

end Go.Proofs.Ytmjnbdkjekdkgaa
