/-
  The swift reckoner says no more than the reckoner does.
-/
import Derived.Test.YtmjnbdkjekdkgaaEvO
namespace Go.Proofs.Ytmjnbdkjekdkgaa
open Go
set_option linter.unusedVariables false
set_option linter.unusedSimpArgs false

theorem obB_eq {α : Type} {x : Option α} {k : α → Bool} (h : obB x k = true) : ∃ a, x = some a ∧ k a = true := by
  cases x with
  | none => cases h
  | some a => exact ⟨a, rfl, h⟩
/-- Both have the same temporaries. -/
def RelT (T : Tr AV) (q : Q2) : Prop := ∀ t, tget T t = getN t q
theorem getN_at {t : Nat} {i j : Dg} (hi : dgOf (t / 16) = some i) (hj : dgOf (t % 16) = some j) (q : Q2) : getN t q = Q1.at j (Q2.at i q) := by
  unfold getN
  rw [hi, hj]
theorem withTmp_ok {β : Type} (Pd : β → Prop) {t : Nat} {bad : β} {k : (Q2 → AV) → Put → β} (hb : Pd bad)
    (h : ∀ g p, (∀ q, g q = getN t q) → (∀ q v K st, ∃ q', p q v K st = K q' st ∧ ∀ u, getN u q' = if u = t then v else getN u q) → Pd (k g p)) : Pd (withTmp t bad k) := by
  unfold withTmp
  split
  · rename_i i hi
    split
    · rename_i j hj
      rw [Q1.withA_eq, Q2.withA_eq]
      refine h _ _ (fun q => (getN_at hi hj q).symm) fun q v K st => ?_
      obtain ⟨q1, e1, f1, g1⟩ := Q1.up_spec j (Q2.at i q) v (fun x => Q2.up i q x fun T => K T st)
      obtain ⟨q2, e2, f2, g2⟩ := Q2.up_spec i q q1 (fun T => K T st)
      refine ⟨q2, (forceV_eq _ _).trans (e1.trans e2), fun u => ?_⟩
      cases hi' : dgOf (u / 16) with
      | none =>
        have : u ≠ t := fun e => by rw [e, hi] at hi'; cases hi'
        rw [if_neg this]
        unfold getN
        rw [hi']
      | some i' =>
        cases hj' : dgOf (u % 16) with
        | none =>
          have : u ≠ t := fun e => by rw [e, hj] at hj'; cases hj'
          rw [if_neg this]
          unfold getN
          rw [hi', hj']
        | some j' =>
          rw [getN_at hi' hj', getN_at hi' hj']
          have a1 := dgOf_eq hi
          have a2 := dgOf_eq hj
          have a3 := dgOf_eq hi'
          have a4 := dgOf_eq hj'
          by_cases hii : i' = i
          · subst hii
            rw [f2]
            by_cases hjj : j' = j
            · subst hjj
              rw [f1, if_pos (by omega)]
            · have : u ≠ t := fun e => hjj (Dg.num_inj (by rw [← a4, ← a2, e]))
              rw [if_neg this, g1 _ hjj]
          · have : u ≠ t := fun e => hii (Dg.num_inj (by rw [← a3, ← a1, e]))
            rw [if_neg this, g2 _ hii]
    · exact hb
  · exact hb
def GetOk (G : Env) (x : Operand) (g : Q2 → AV) : Prop := ∀ T q, RelT T q → opd G T x = some (g q)
def PutOk (N : Nat) (d : Option Nat) (p : Put) : Prop := ∀ T q v K st, RelT T q → p q v K st = true → ∃ T' q', (∀ (β : Type) (k : Tr AV → Option β), putF N d v T k = k T') ∧ RelT T' q' ∧ K q' st = true
theorem withG_ok {β : Type} (Pd : β → Prop) {G : Env} {x : Operand} {bad : β} {k : (Q2 → AV) → β} (hb : Pd bad) (h : ∀ g, GetOk G x g → Pd (k g)) : Pd (withG G x bad k) := by
  cases x with
  | tmp t => exact withTmp_ok (k := fun g _ => k g) (t := t) Pd hb fun g p hg _ => h g fun T q hT => by rw [hg]; exact congrArg some (hT t)
  | const v =>
    show Pd (Option.rec bad (fun a => k (fun _ => a)) (ofConst v))
    cases hv : ofConst v with
    | none => exact hb
    | some a => exact h _ fun T q hT => hv
  | global n =>
    show Pd (bif' (G.g n) (k (fun _ => .ptr n 0 0)) bad)
    cases hg : G.g n with
    | false => exact hb
    | true => exact h _ fun T q hT => by show need (G.g n) _ = _; rw [hg]; rfl
  | func f => exact h _ fun T q hT => rfl
theorem withP_ok (Pd : CI → Prop) {N : Nat} {d : Option Nat} {k : Put → CI} (hb : Pd badCI) (h : ∀ p, PutOk N d p → Pd (k p)) : Pd (withP N d k) := by
  cases d with
  | none => exact h _ fun T q v K st hT hK => ⟨T, q, fun _ _ => rfl, hT, hK⟩
  | some t =>
    show Pd (bif' (Nat.ble (t + 1) N) (withTmp t badCI fun _ p => k p) badCI)
    cases hn : Nat.ble (t + 1) N with
    | false => exact hb
    | true =>
      refine withTmp_ok (k := fun _ p => k p) (t := t) Pd hb fun g p _ hp => h p fun T q v K st hT hK => ?_
      obtain ⟨q', e, hq⟩ := hp q v K st
      refine ⟨T.set t v, q', fun β k => ?_, fun u => ?_, by rw [← e]; exact hK⟩
      · show need (Nat.ble (t + 1) N) (T.put t v k) = _
        rw [hn, Tr.put_eq]
        rfl
      · rw [tget_set, hq, hT u]
theorem withPB_ok {β : Type} (Pd : β → Prop) {N : Nat} {t : Nat} {bad : β} {k : Put → β} (hb : Pd bad) (h : ∀ p, PutOk N (some t) p → Pd (k p)) : Pd (withPB N t bad k) := by
  unfold withPB
  cases hn : Nat.ble (t + 1) N with
  | false => exact hb
  | true =>
    refine withTmp_ok (k := fun _ p => k p) (t := t) Pd hb fun g p _ hp => h p fun T q v K st hT hK => ?_
    obtain ⟨q', e, hq⟩ := hp q v K st
    refine ⟨T.set t v, q', fun β k => ?_, fun u => ?_, by rw [← e]; exact hK⟩
    · show need (Nat.ble (t + 1) N) (T.put t v k) = _
      rw [hn, Tr.put_eq]
      rfl
    · rw [tget_set, hq, hT u]
theorem withGs_ok {β : Type} (Pd : β → Prop) {G : Env} {bad : β} (hb : Pd bad) : ∀ (l : List Operand) {k : List (Q2 → AV) → β}, (∀ gs, (∀ T q, RelT T q → mapO (opd G T) l = some (gs.map fun g => g q)) → Pd (k gs)) → Pd (withGs G bad l k) := by
  intro l
  induction l with
  | nil => intro k h; exact h [] fun T q hT => rfl
  | cons x l ih =>
    intro k h
    show Pd (withG G x bad fun g => withGs G bad l fun gs => k (g :: gs))
    refine withG_ok Pd hb fun g hg => ih fun gs hgs => h _ fun T q hT => ?_
    rw [mapO_cons, hg T q hT, ob_some, hgs T q hT, ob_some]
    rfl
theorem rowG_eq (gs : List (Q2 → AV)) (q : Q2) : ∀ k : List AV → Bool, rowG gs q k = k (gs.map fun g => g q) := by
  induction gs with
  | nil => intro k; rfl
  | cons g gs ih => intro k; show rowG gs q (fun l => k (g q :: l)) = _; rw [ih]; rfl
theorem opC_eq {G : Env} {T : Tr AV} {q : Q2} (h : RelT T q) : opC G q = opd G T := by
  funext x
  cases x with
  | tmp t => exact congrArg some (h t).symm
  | const v => rfl
  | global g => rfl
  | func f => rfl

def CallLaw (cc : CallC) (call : CallF) : Prop := ∀ f args st k, cc f args st k = true → ∃ v st', call f args st = some (v, st') ∧ k v st' = true
/-- An operation's run is right. -/
def InOk (P : Program) (G : Env) (N : Nat) (o : Oper) (r : Run) : Prop := ∀ call cc, CallLaw cc call → ∀ T q st K, RelT T q → r cc K q st = true →
  ∃ v st' T' q', opF P (opd G T) call o st = some (v, st') ∧ (∀ (β : Type) (k : Tr AV → Option β), putF N o.dst v T k = k T') ∧ RelT T' q' ∧ K q' st' = true
theorem in_bad (P : Program) (G : Env) (N : Nat) (o : Oper) : InOk P G N o badCI.run := fun _ _ _ _ _ _ _ _ h => by cases h
theorem in_of {P : Program} {G : Env} {N : Nat} {o : Oper} {p : Put} (hp : PutOk N o.dst p) {call : CallF} {T : Tr AV} {q : Q2} {st st' : St} {K : KB} {v : AV} (hT : RelT T q) (ho : opF P (opd G T) call o st = some (v, st')) (h : p q v K st' = true) :
    ∃ v st' T' q', opF P (opd G T) call o st = some (v, st') ∧ (∀ (β : Type) (k : Tr AV → Option β), putF N o.dst v T k = k T') ∧ RelT T' q' ∧ K q' st' = true := by
  obtain ⟨T', q', h1, h2, h3⟩ := hp T q v K st' hT h
  exact ⟨v, st', T', q', ho, h1, h2, h3⟩
theorem in_gen {P : Program} {G : Env} {N : Nat} {o : Oper} {p : Put} (hp : PutOk N o.dst p) (hn : ∀ R call st, opF P R call o st = aop P R o.op st) : InOk P G N o (genR P G o.op p) := by
  intro call cc hc T q st K hT h
  obtain ⟨⟨v, st'⟩, h1, h2⟩ := obB_eq h
  rw [opC_eq hT] at h1
  exact in_of hp hT (by rw [hn, h1]) h2

/-! Each operation. -/
theorem pickC_ok {x a b : AV} {k : KV} (h : pickC x a b k = true) : ∃ t, x = .bool t ∧ k (bif' t a b) = true := by
  cases x <;> first | (cases h; done) | skip
  rename_i t
  refine ⟨t, rfl, ?_⟩
  cases t <;> exact h
theorem Tr.getQ_eq {α : Type} (t : Tr α) : Tr.getQ t = Tr.get t := rfl
theorem part_ok {P : Program} {t : TypeId} {β : Type} (Pd : β → Prop) {bad : β} {k : PartC → β} (hb : Pd bad) (h : ∀ pt : PartC, (∀ l off kv, pt l off kv = true → ∃ v, partA P t l off = some v ∧ kv v = true) → Pd (k pt)) : Pd (withPart P t bad k) := by
  unfold withPart
  split
  · rename_i n hk
    exact h _ fun l off kv hkv => by
      obtain ⟨v, h1, h2⟩ := obB_eq hkv
      exact ⟨v, by unfold partA; rw [hk]; exact h1, h2⟩
  · rename_i hk
    exact h _ fun l off kv hkv => by
      obtain ⟨v, h1, h2⟩ := obB_eq hkv
      exact ⟨v, by unfold partA; rw [hk]; exact h1, h2⟩
  · exact hb
theorem loadC_ok {P : Program} {t : TypeId} {pt : PartC} (hpt : ∀ l off kv, pt l off kv = true → ∃ v, partA P t l off = some v ∧ kv v = true) {x : AV} {st : St} {k : KV} (h : loadC pt x st k = true) : ∃ v, loadA P t x st.h.get = some v ∧ k v = true := by
  cases x <;> first | (cases h; done) | skip
  rename_i c m off
  replace h : ldGet (Tr.get st.h c) m off pt k = true := h
  cases hc : Tr.get st.h c with
  | none => rw [hc] at h; cases h
  | some C =>
    rw [hc] at h
    cases C with
    | iter => cases h
    | map => cases h
    | row ro ms =>
      replace h : ldRow ro ms m off pt k = true := h
      obtain ⟨x, h1, h⟩ := obB_eq h
      obtain ⟨l, h2, h⟩ := obB_eq h
      obtain ⟨v, h3, h4⟩ := hpt _ _ _ h
      refine ⟨v, ?_, h4⟩
      show ob (rowOf st.h.get c m) _ = _
      unfold rowOf
      rw [hc, ob_some]
      show ob (ob (nth ms m) _) _ = _
      rw [h1, ob_some, h2, ob_some, ob_some]
      exact h3
theorem faC_ok {P : Program} {t : TypeId} {f o : Nat} (ho : fieldOff P t f = some o) {x : AV} {k : KV} (h : faC o x k = true) : ∃ v, fieldAddrA P t x f = some v ∧ k v = true := by
  cases x <;> first | (cases h; done) | skip
  rename_i c m off
  replace h : sNat (Nat.add off o) (fun z => k (.ptr c m z)) = true := h
  rw [sNat_eq] at h
  refine ⟨.ptr c m (off + o), ?_, h⟩
  show ob (fieldOff P t f) _ = _
  rw [ho, ob_some, sNat_eq]
theorem ncC_ok {x : AV} {k : KV} (h : ncC x k = true) : ((∃ c m off, x = .ptr c m off) ∨ ∃ f a c, x = .fn f a c) ∧ k x = true := by
  cases x <;> first | (cases h; done) | exact ⟨.inl ⟨_, _, _, rfl⟩, h⟩ | exact ⟨.inr ⟨_, _, _, rfl⟩, h⟩
theorem exC_ok {i : Nat} {x : AV} {k : KV} (h : exC i x k = true) : ∃ l v, x = .tup l ∧ nth l i = some v ∧ k v = true := by
  cases x <;> first | (cases h; done) | skip
  rename_i l
  obtain ⟨v, h1, h2⟩ := obB_eq h
  exact ⟨l, v, rfl, h1, h2⟩
theorem is64_eq {α : Type} {k : IntKind} {x z : α} : is64 k x z = if k = .i64 then x else z := by cases k <;> rfl
theorem int2_ok {f : Int → Int → KV → Bool → Bool} {x y : AV} {k : KV} {z : Bool} (h : int2 f x y k z = true) : z = true ∨ ∃ a b, x = .int .i64 a ∧ y = .int .i64 b ∧ f a b k z = true := by
  cases x <;> first | exact .inl h | skip
  rename_i j a
  cases y <;> first | exact .inl h | skip
  rename_i i b
  replace h : is64 j (is64 i (f a b k z) z) z = true := h
  rw [is64_eq, is64_eq] at h
  split at h
  · rename_i e1
    split at h
    · rename_i e2
      subst e1 e2
      exact .inr ⟨a, b, rfl, rfl, h⟩
    · exact .inl h
  · exact .inl h
theorem binN_ok {P : Program} {op : BinOp} {t : TypeId} {f : Int → Int → KV → Bool → Bool} (hf : ∀ a b k z, f a b k z = true → z = true ∨ ∃ v, b2i op .i64 a b = some v ∧ k v = true)
    (hop : ∀ a b, b2 P op t (.int .i64 a) (.int .i64 b) = b2i op .i64 a b) {x y : AV} {k : KV} (h : binN f (binG P op t) x y k = true) : ∃ v, b2 P op t x y = some v ∧ k v = true := by
  rcases int2_ok h with h | ⟨a, b, rfl, rfl, h⟩
  · exact obB_eq h
  · rcases hf _ _ _ _ h with h | ⟨v, h1, h2⟩
    · exact obB_eq h
    · exact ⟨v, by rw [hop]; exact h1, h2⟩
theorem addN_ok (a b : Int) (k : KV) (z : Bool) (h : addN a b k z = true) : z = true ∨ ∃ v, b2i .add .i64 a b = some v ∧ k v = true := by
  cases a with
  | negSucc m => exact .inl h
  | ofNat m => cases b with
    | negSucc n => exact .inl h
    | ofNat n =>
      replace h : Bool.rec (motive := fun _ => Bool) z (sNat (Nat.add m n) fun s => k (.int .i64 (Int.ofNat s))) (Nat.ble (Nat.add m n) i64most) = true := h
      cases hb : Nat.ble (Nat.add m n) i64most with
      | false => rw [hb] at h; exact .inl h
      | true =>
        rw [hb] at h
        replace h : sNat (Nat.add m n) (fun s => k (.int .i64 (Int.ofNat s))) = true := h
        rw [sNat_eq] at h
        refine .inr ⟨.int .i64 (Int.ofNat (m + n)), ?_, h⟩
        unfold b2i
        simp only [sInt_eq, wrapF_eq]
        have := i64most_le hb
        have e : IntKind.wrap .i64 (Int.ofNat m + Int.ofNat n) = Int.ofNat m + Int.ofNat n := IntWalk.i64_in _ (by
          have : m + n ≤ 9223372036854775807 := this
          simp only [Int.ofNat_eq_natCast]
          omega)
        rw [e]
        rfl
theorem binC_ok {P : Program} {op : BinOp} {t : TypeId} {x y : AV} {k : KV} (h : binC P op t x y k = true) : ∃ v, b2 P op t x y = some v ∧ k v = true := by
  cases op <;> first
    | exact obB_eq h
    | exact binN_ok (fun a b k z h => .inr ⟨_, rfl, h⟩) (fun a b => by show need (eqK .i64 .i64) _ = _; rw [eqK, decide_eq_true rfl]; rfl) h
    | exact binN_ok addN_ok (fun a b => by show need (eqK .i64 .i64) _ = _; rw [eqK, decide_eq_true rfl]; rfl) h

end Go.Proofs.Ytmjnbdkjekdkgaa
