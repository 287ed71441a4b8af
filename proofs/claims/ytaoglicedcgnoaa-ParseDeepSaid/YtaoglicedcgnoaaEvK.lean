/-
  A reckoner for closed calls: what operations, regions in the order of their text, code and calls do in the model; a region that draws is taken as it is handed in.
-/
import Derived.Test.YtaoglicedcgnoaaEvJ
namespace Go.Proofs.Ytaoglicedcgnoaa
open Go
set_option linter.unusedVariables false
set_option linter.unusedSimpArgs false

/-- Temporaries. -/
structure TR (p : Pls) (h : Hp) (T : Tr AV) (a : Act) (N : Nat) : Prop where
  size : a.tmps.size = N
  get : ∀ t, a.tmps.getD t undef = conc p (tget T t) ∧ WF h (tget T t)
  defers : a.defers = []
/-- The variables of the program that are known. -/
def GOK (p : Pls) (G : Nat → Bool) : Prop := ∀ g, G g = true → ∃ e, p g 0 = some ⟨g, 0, e⟩
theorem GOK.le {p q : Pls} {G : Nat → Bool} (h : GOK p G) (hl : Pls.le p q) : GOK q G := fun g hg => by
  obtain ⟨e, he⟩ := h g hg
  exact ⟨e, hl _ _ _ he⟩
theorem TR.step {w0 : World} {p p' : Pls} {h h' : Hp} {w w' : World} {T : Tr AV} {a : Act} {N : Nat} (hT : TR p h T a N) (H : HR w0 p h w) (hs : Step w0 p w p' h' w') (hg : Grow h h') : TR p' h' T a N :=
  ⟨hT.size, fun t => by
    obtain ⟨h1, h2⟩ := hT.get t
    exact ⟨by rw [conc_le H.cov hs.le _ h2]; exact h1, WF.grow hg _ h2⟩, hT.defers⟩
theorem tget_set (T : Tr AV) (d : Nat) (v : AV) (t : Nat) : tget (T.set d v) t = if t = d then v else tget T t := by
  unfold tget
  rw [Tr.get_set]
  by_cases h : t = d
  · rw [if_pos h, if_pos h]
  · rw [if_neg h, if_neg h]
theorem TR.put {p : Pls} {h : Hp} {T : Tr AV} {a : Act} {N d : Nat} {v : AV} (hT : TR p h T a N) (hv : WF h v) (hd : d < N) : TR p h (T.set d v) (a.put (some d) (conc p v)) N := by
  refine ⟨by simp [Act.put, hT.size], fun t => ?_, hT.defers⟩
  rw [tget_set]
  by_cases ht : t = d
  · subst ht
    rw [if_pos rfl]
    refine ⟨?_, hv⟩
    have : t < a.tmps.size := by rw [hT.size]; exact hd
    simp [Act.put, this]
  · rw [if_neg ht]
    refine ⟨?_, (hT.get t).2⟩
    rw [← (hT.get t).1]
    simp [Act.put, Array.getElem?_setIfInBounds_ne (Ne.symm ht)]
theorem opd_fit {w0 : World} {p : Pls} {h : Hp} {w : World} {G : Nat → Bool} {T : Tr AV} {a : Act} {N : Nat} (H : HR w0 p h w) (hG : GOK p G) (hT : TR p h T a N) : RFit (opd G T) a.eval p h := by
  intro x v hx
  unfold opd at hx
  split at hx
  · injection hx with hx
    subst hx
    exact hT.get _
  · obtain ⟨h1, h2⟩ := ofConst_ok p h hx
    exact ⟨h1.symm, h2⟩
  · obtain ⟨h1, h2⟩ := need_eq hx
    injection h2 with h2
    subst h2
    rename_i g
    obtain ⟨e, he⟩ := hG g h1
    obtain ⟨C, hC, hm⟩ := H.dom g 0 _ he
    refine ⟨?_, C, hC, hm⟩
    simp only [conc, he, Act.eval, Nat.add_zero]
  · injection hx with hx
    subst hx
    exact ⟨rfl, trivial, trivial⟩

/-- What a call does. -/
def CPost (w0 : World) (p : Pls) (w : World) (st' : St) (v : AV) (e : Ending) (w' : World) : Prop := ∃ p', e = .returned (conc p' v) ∧ Step w0 p w p' st'.h.get w' ∧ WF st'.h.get v
def CallOk (P : Program) (G : Nat → Bool) (call : CallF) : Prop := ∀ f args st v st', call f args st = some (v, st') → Fresh st → WFL st.h.get args →
  (∃ fn, P.funcs[f]? = some fn ∧ fn.body.isSome = true ∧ (fn.name == "runtime.NumGoroutine") = false) ∧
  ∀ w0 p w, HR w0 p st.h.get w → GOK p G → Ab st st' ∧ Calls P f (concL p args).toArray w (CPost w0 p w st' v)

/-- What an operation does. -/
theorem opF_ok {P : Program} {G : Nat → Bool} {call : CallF} (hcall : CallOk P G call) {o : Oper} {R : Operand → Option AV} {st st' : St} {v : AV} (h : opF P R call o st = some (v, st')) (hf : Fresh st)
    {w0 : World} {p : Pls} {w : World} {a : Act} (H : HR w0 p st.h.get w) (hG : GOK p G) (hT : RFit R a.eval p st.h.get) :
    Ab st st' ∧ (∃ p' w', Step w0 p w p' st'.h.get w' ∧ WF st'.h.get v) ∧
    ∀ (next : Act → World → Prop) (Q : Exit → Act → World → Prop), (∀ p' w', Step w0 p w p' st'.h.get w' → WF st'.h.get v → next (a.put o.dst (conc p' v)) w') → o.wp P a w next Q := by
  have plain : ∀ (ha : aop P R o.op st = some (v, st')), Ab st st' ∧ (∃ p' w', Step w0 p w p' st'.h.get w' ∧ WF st'.h.get v) ∧
      ∀ (next : Act → World → Prop) (Q : Exit → Act → World → Prop), (∀ p' w', Step w0 p w p' st'.h.get w' → WF st'.h.get v → next (a.put o.dst (conc p' v)) w') → o.wp P a w next Q := by
    intro ha
    obtain ⟨h1, h2⟩ := aop_sim o ha hf fun x v hx => (hT x v hx).2
    obtain ⟨p', w', h3, h4, h5⟩ := h2 w0 p w a.eval H hT
    refine ⟨h1, ⟨p', w', h4, h5⟩, fun next Q hn => ?_⟩
    unfold Oper.wp
    rcases h3 with h3 | ⟨h3, h6⟩
    · rw [h3, Oper.upon_value]; exact hn p' w' h4 h5
    · rw [h3, Oper.upon_skip, ← h6]; exact hn p' w' h4 h5
  unfold opF at h
  split at h
  · rename_i c hop
    split at h
    · rename_i f hcf
      replace h := ob_eq h
      obtain ⟨u, hu, h⟩ := h
      split at h
      · rename_i fid first cap
        replace h := ob_eq h
        obtain ⟨l, hl, h⟩ := h
        rw [appL_eq, appL_eq] at h
        obtain ⟨k1, k2, k3⟩ := hT f _ hu
        obtain ⟨m1, m2⟩ := rows_ok hT _ _ hl
        have hwf : WFL st.h.get (first ++ (l ++ cap)) := (WFL_iff _ _).2 fun x hx => by
          rcases List.mem_append.1 hx with hx | hx
          · exact (WFL_iff _ _).1 k2 x hx
          · rcases List.mem_append.1 hx with hx | hx
            · exact (WFL_iff _ _).1 m2 x hx
            · exact (WFL_iff _ _).1 k3 x hx
        obtain ⟨⟨fn, f1, f2, f3⟩, hc⟩ := hcall _ _ _ _ _ h hf hwf
        obtain ⟨hab, hc⟩ := hc w0 p w H hG
        refine ⟨hab, ?_, fun next Q hn => ?_⟩
        · obtain ⟨e, w', fr, ⟨p', he, hs, hw⟩, _⟩ := hc []
          exact ⟨p', w', hs, hw⟩
        · have hrun : (execOp a.eval o).run P w = .ok (.enter fid (concL p (first ++ (l ++ cap))).toArray) w := by
            obtain ⟨dst, op, type, pos, after, guard⟩ := o
            simp only at hop
            subst hop
            have e1 : c.args.map a.eval = (concL p l).toArray := by apply Array.ext'; rw [Array.toList_map]; exact m1
            have e2 : (concL p first).toArray ++ (concL p l).toArray ++ (concL p cap).toArray = (concL p (first ++ (l ++ cap))).toArray := by
              rw [concL_eq, concL_eq, concL_eq, concL_eq, List.map_append, List.map_append]
              simp
            have f2' : fn.body.isNone = false := by cases hb : fn.body <;> simp_all
            simp only [execOp, resolve, hcf, e1, k1, conc, Deferred.ofValue, Sem.run_bind, Sem.run_pure, Result.andThen_ok, invoke, callFunc, run_program, f1, f3, f2', Bool.false_eq_true, if_false, e2]
          unfold Oper.wp
          rw [hrun, Oper.upon_enter]
          refine hc.mono fun e w' => ?_
          rintro ⟨p', rfl, hs, hw⟩
          exact hn p' w' hs hw
      · cases h
    · exact plain h
  · exact plain h

theorem opF_congr {P : Program} {R R' : Operand → Option AV} {call : CallF} {o : Oper} {st : St} (h : ∀ x ∈ o.op.operands, R x = R' x) : opF P R call o st = opF P R' call o st := by
  have hp := aop_congr (P := P) o.op st h
  unfold opF
  split
  · rename_i c hop
    rw [hop] at h hp
    split
    · rename_i f hcf
      have hf : R f = R' f := h f (by simp [Op.operands, Call.operands, hcf])
      have ha : mapO R c.args.toList = mapO R' c.args.toList := mapO_congr _ fun x hx => h x (by simp [Op.operands, Call.operands, hcf]; exact .inr (by simpa using hx))
      rw [hf, ha]
    · rw [hop]; exact hp
  · exact hp

theorem conc_bool {p : Pls} {v : AV} {b : Bool} (h : conc p v = .bool b) : v = .bool b := by
  cases v with
  | bool c => rw [conc] at h; injection h with h; rw [h]
  | ptr c m off => rw [conc] at h; split at h <;> cases h
  | sl c m off len esz => rw [conc] at h; split at h <;> cases h
  | mp c => rw [conc] at h; split at h <;> cases h
  | _ => rw [conc] at h; cases h
theorem dstOf_eq (ops : Array Oper) (j : Nat) : dstOf ops.toList j = (ops[j]?).bind (·.dst) := by
  unfold dstOf
  rw [nth_eq, Array.getElem?_toList]
  cases ops[j]? <;> rfl
/-- Of the guard's temporary alone. -/
theorem wants_eq {ops : Array Oper} {o : Oper} {T : Tr AV} {a : Act} {p : Pls} {N : Nat} (hN : a.tmps.size = N) (hT : ∀ g t, o.guard = some g → dstOf ops.toList g.1 = some t → a.tmps.getD t undef = conc p (tget T t)) :
    Region.wanted o (yielded ops a.tmps) = wants ops.toList o T := by
  unfold Region.wanted wants
  cases hg : o.guard with
  | none => rfl
  | some g =>
    obtain ⟨j, want⟩ := g
    simp only
    unfold yielded
    have hd := dstOf_eq ops j
    cases hj : (ops[j]?).bind (·.dst) with
    | none => rw [hj] at hd; rw [hd]; rfl
    | some t =>
      rw [hj] at hd
      have ht := hT _ t hg hd
      rw [hd]
      simp only [Option.bind_some]
      by_cases hlt : t < a.tmps.size
      · have e : a.tmps[t]? = some (conc p (tget T t)) := by rw [← ht]; simp [hlt]
        rw [e]
        cases hv : tget T t with
        | bool b => cases b <;> cases want <;> rfl
        | _ =>
          have : ∀ b, conc p (tget T t) ≠ .bool b := fun b hb => by have := conc_bool hb; rw [hv] at this; cases this
          rw [hv] at this
          simp only
          split
          · rename_i b hb; injection hb with hb; exact absurd hb (this b)
          · rfl
      · have e : a.tmps[t]? = none := Array.getElem?_eq_none (Nat.le_of_not_lt hlt)
        have e2 : a.tmps.getD t undef = undef := by simp [hlt]
        rw [e2] at ht
        rw [e]
        cases hv : tget T t with
        | bool b => rw [hv] at ht; cases ht
        | _ => rfl

/-- What an operation of a region does, its guard asked. -/
theorem stepF_ok {P : Program} {G : Nat → Bool} {call : CallF} (hcall : CallOk P G call) {ops : Array Oper} {o : Oper} {T : Tr AV} {st st' : St} {v : AV} (h : stepF P G call ops.toList o T st = some (v, st')) (hf : Fresh st)
    {w0 : World} {p : Pls} {w : World} {a : Act} {N : Nat} (H : HR w0 p st.h.get w) (hG : GOK p G) (hT : TR p st.h.get T a N) :
    Ab st st' ∧ (∃ p' w', Step w0 p w p' st'.h.get w' ∧ WF st'.h.get v) ∧
    ∀ (i : Nat) (K : Act → World → Prop) (Q : Exit → Act → World → Prop), ops[i]? = some o → (∀ p' w', Step w0 p w p' st'.h.get w' → WF st'.h.get v → K (a.put o.dst (conc p' v)) w') → wpOp P ops Q i K a w := by
  have hw := wants_eq (ops := ops) (o := o) (p := p) hT.size fun g t _ _ => (hT.get t).1
  unfold stepF at h
  cases hq : wants ops.toList o T with
  | true =>
    rw [hq, bif_true] at h
    obtain ⟨h1, h2, h3⟩ := opF_ok hcall h hf H hG (opd_fit H hG hT)
    refine ⟨h1, h2, fun i K Q hi hK => ?_⟩
    unfold wpOp
    rw [hi]
    simp only [hw, hq, if_true]
    exact .inl (h3 K Q hK)
  | false =>
    rw [hq, bif_false] at h
    injection h with h
    injection h with e1 e2
    subst e1 e2
    refine ⟨Ab.refl _, ⟨p, w, Step.refl H, trivial⟩, fun i K Q hi hK => ?_⟩
    unfold wpOp
    rw [hi]
    simp only [hw, hq, Bool.false_eq_true, if_false]
    exact hK p w (Step.refl H) trivial

theorem putF_eq {β : Type} {N : Nat} {dst : Option Nat} {v : AV} {T : Tr AV} {k : Tr AV → Option β} {x : β} (h : putF N dst v T k = some x) :
    (dst = none ∧ k T = some x) ∨ ∃ d, dst = some d ∧ d < N ∧ k (T.set d v) = some x := by
  cases dst with
  | none => exact .inl ⟨rfl, h⟩
  | some d =>
    have h : need (Nat.ble (d + 1) N) (T.put d v k) = some x := h
    obtain ⟨h1, h2⟩ := need_eq h
    rw [Tr.put_eq] at h2
    exact .inr ⟨d, rfl, Nat.le_of_ble_eq_true h1, h2⟩

theorem regS_ok {P : Program} {G : Nat → Bool} {call : CallF} (hcall : CallOk P G call) {N : Nat} {ops : Array Oper} {Q : Exit → Act → World → Prop} : ∀ (l : List Oper) (is : List Nat), is.map (fun i => ops[i]?) = l.map some →
    ∀ (T T' : Tr AV) (st st' : St), regS P G call N ops.toList l T st = some (T', st') → Fresh st →
    ∀ (w0 : World) (p : Pls) (w : World) (a : Act), HR w0 p st.h.get w → GOK p G → TR p st.h.get T a N →
    Ab st st' ∧ (∃ p' w' a', Step w0 p w p' st'.h.get w' ∧ TR p' st'.h.get T' a' N) ∧ ((∀ p' w' a', Step w0 p w p' st'.h.get w' → TR p' st'.h.get T' a' N → Q .normal a' w') → wpOps P ops Q is a w) := by
  intro l
  induction l with
  | nil =>
    intro is his T T' st st' h hf w0 p w a H hG hT
    have : is = [] := by cases is with
      | nil => rfl
      | cons i is => simp at his
    subst this
    injection h with h
    injection h with e1 e2
    subst e1 e2
    exact ⟨Ab.refl _, ⟨p, w, a, Step.refl H, hT⟩, fun hQ => hQ p w a (Step.refl H) hT⟩
  | cons o l ih =>
    intro is his T T' st st' h hf w0 p w a H hG hT
    cases is with
    | nil => simp at his
    | cons i is =>
      simp only [List.map_cons, List.cons.injEq] at his
      obtain ⟨hi, his⟩ := his
      have h : (ob (stepF P G call ops.toList o T st) fun r => putF N o.dst r.1 T fun T => tl (regS P G call N ops.toList l T r.2)) = some (T', st') := h
      replace h := ob_eq h
      obtain ⟨⟨v, st1⟩, hs, h⟩ := h
      obtain ⟨k1, ⟨pr, wr, kr, kw⟩, k3⟩ := stepF_ok hcall hs hf H hG hT
      have hf1 := k1.fresh hf
      simp only at h
      rw [wpOps_cons]
      rcases putF_eq h with ⟨hd, h⟩ | ⟨d, hd, hdN, h⟩
      · obtain ⟨hreal, ⟨p2, w2, a2, m2, mt⟩, _⟩ := ih is his T T' st1 st' h hf1 w0 pr wr a kr.hr (hG.le kr.le) (hT.step H kr k1.grow)
        refine ⟨k1.trans hreal, ⟨p2, w2, a2, kr.trans m2, mt⟩, fun hQ => k3 i _ Q hi fun p1 w1 hs1 hw1 => ?_⟩
        rw [hd]
        refine (ih is his T T' st1 st' h hf1 w0 p1 w1 a hs1.hr (hG.le hs1.le) (hT.step H hs1 k1.grow)).2.2 fun p' w' a' hs' hT' => hQ p' w' a' (hs1.trans hs') hT'
      · obtain ⟨hreal, ⟨p2, w2, a2, m2, mt⟩, _⟩ := ih is his _ T' st1 st' h hf1 w0 pr wr _ kr.hr (hG.le kr.le) ((hT.step H kr k1.grow).put kw hdN)
        refine ⟨k1.trans hreal, ⟨p2, w2, a2, kr.trans m2, mt⟩, fun hQ => k3 i _ Q hi fun p1 w1 hs1 hw1 => ?_⟩
        rw [hd]
        refine (ih is his _ T' st1 st' h hf1 w0 p1 w1 _ hs1.hr (hG.le hs1.le) ((hT.step H hs1 k1.grow).put hw1 hdN)).2.2 fun p' w' a' hs' hT' => hQ p' w' a' (hs1.trans hs') hT'

/-- What is asked of regions that draw. -/
def DrawOk (P : Program) (G : Nat → Bool) : Prop := ∀ (call : CallF), CallOk P G call → ∀ (N : Nat) (ops : Array Oper) (pl : List (Nat × Oper × Nat)), planOf ops.toList = some pl →
  ∀ (T T' : Tr AV) (st st' : St), regD P G call N ops.toList pl T st [st] = some (T', st') → Fresh st →
  ∀ (w0 : World) (p : Pls) (w : World) (a : Act), HR w0 p st.h.get w → GOK p G → TR p st.h.get T a N →
  Ab st st' ∧ (∃ p' w' a', Step w0 p w p' st'.h.get w' ∧ TR p' st'.h.get T' a' N) ∧ ∀ (id : Nat) (Q : Exit → Act → World → Prop), (∀ p' w' a', Step w0 p w p' st'.h.get w' → TR p' st'.h.get T' a' N → Q .normal a' w') → (Code.region id ops true).wp P Q a w

def exOf : Ex → Exit
  | .nor => .normal
  | .exit i => .exit i
  | .ret => .ret

theorem thenF_eq {r : Option (Ex × Tr AV × St)} {k : Tr AV → St → Option (Ex × Tr AV × St)} {x : Ex × Tr AV × St} (h : thenF r k = some x) :
    (∃ T st, r = some (.nor, T, st) ∧ k T st = some x) ∨ (r = some x ∧ x.1 ≠ .nor) := by
  replace h := ob_eq h
  obtain ⟨⟨e, T, st⟩, hr, h⟩ := h
  cases e with
  | nor => exact .inl ⟨T, st, hr, h⟩
  | exit i => injection h with h; subst h; exact .inr ⟨hr, by intro e; cases e⟩
  | ret => injection h with h; subst h; exact .inr ⟨hr, by intro e; cases e⟩

/-- What a piece of code does. -/
def Does (P : Program) (G : Nat → Bool) (N : Nat) (f : Tr AV → St → Option (Ex × Tr AV × St)) (wpf : (Exit → Act → World → Prop) → Act → World → Prop) : Prop :=
  ∀ (T T' : Tr AV) (st st' : St) (x : Ex), f T st = some (x, T', st') → Fresh st → ∀ (w0 : World) (p : Pls) (w : World) (a : Act), HR w0 p st.h.get w → GOK p G → TR p st.h.get T a N →
  Ab st st' ∧ (∃ p' w' a', Step w0 p w p' st'.h.get w' ∧ TR p' st'.h.get T' a' N) ∧ ∀ (Q : Exit → Act → World → Prop), (∀ p' w' a', Step w0 p w p' st'.h.get w' → TR p' st'.h.get T' a' N → Q (exOf x) a' w') → wpf Q a w

theorem loop_does {P : Program} {G : Nat → Bool} {N : Nat} {c : Code} {f : Tr AV → St → Option (Ex × Tr AV × St)} (hf : Does P G N f (fun Q a w => c.wp P Q a w)) : ∀ L, Does P G N (loopF L f) (fun Q a w => Code.rounds P c Q L a w) := by
  intro L
  induction L with
  | zero => intro T T' st st' x h; cases h
  | succ L ih =>
    intro T T' st st' x h hfr w0 p w a H hG hT
    have h : thenF (f T st) (loopF L f) = some (x, T', st') := h
    rcases thenF_eq h with ⟨T1, st1, h1, h2⟩ | ⟨h1, hx⟩
    · obtain ⟨k1, ⟨pr, wr, ar, kr, kt⟩, k3⟩ := hf T T1 st st1 .nor h1 hfr w0 p w a H hG hT
      obtain ⟨m1, ⟨p2, w2, a2, m2, mt⟩, _⟩ := ih T1 T' st1 st' x h2 (k1.fresh hfr) w0 pr wr ar kr.hr (hG.le kr.le) kt
      refine ⟨k1.trans m1, ⟨p2, w2, a2, kr.trans m2, mt⟩, fun Q hQ => ?_⟩
      show Code.rounds P c Q (L + 1) a w
      rw [rounds_succ]
      refine k3 _ fun p1 w1 a1 hs1 hT1 => ?_
      exact (ih T1 T' st1 st' x h2 (k1.fresh hfr) w0 p1 w1 a1 hs1.hr (hG.le hs1.le) hT1).2.2 Q fun p' w' a' hs' hT' => hQ p' w' a' (hs1.trans hs') hT'
    · obtain ⟨k1, k2, k3⟩ := hf T T' st st' x h1 hfr w0 p w a H hG hT
      refine ⟨k1, k2, fun Q hQ => ?_⟩
      show Code.rounds P c Q (L + 1) a w
      rw [rounds_succ]
      refine k3 _ fun p1 w1 a1 hs1 hT1 => ?_
      have := hQ p1 w1 a1 hs1 hT1
      cases x with
      | nor => exact absurd rfl hx
      | exit i => exact this
      | ret => exact this

theorem code_does {P : Program} {G : Nat → Bool} (hD : DrawOk P G)
    {call : CallF} (hcall : CallOk P G call) (N L : Nat) : ∀ c : Code, Does P G N (codeF P G call N L c) (fun Q a w => c.wp P Q a w) := by
  intro c
  induction c with
  | skip =>
    intro T T' st st' x h hf w0 p w a H hG hT
    injection h with h
    simp only [Prod.mk.injEq] at h
    obtain ⟨rfl, rfl, rfl⟩ := h
    exact ⟨Ab.refl _, ⟨p, w, a, Step.refl H, hT⟩, fun Q hQ => wp_skip (hQ p w a (Step.refl H) hT)⟩
  | region id ops draw =>
    intro T T' st st' x h hf w0 p w a H hG hT
    cases draw with
    | true =>
      have h : (ob (planOf ops.toList) fun pl => ob (regD P G call N ops.toList pl T st [st]) fun r => some (Ex.nor, r)) = some (x, T', st') := h
      replace h := ob_eq h
      obtain ⟨pl, hpl, h⟩ := h
      replace h := ob_eq h
      obtain ⟨r, hr, h⟩ := h
      injection h with h
      injection h with e1 e2
      subst e1 e2
      obtain ⟨k1, k2, k3⟩ := hD call hcall N ops pl hpl T T' st st' hr hf w0 p w a H hG hT
      exact ⟨k1, k2, fun Q hQ => k3 id Q hQ⟩
    | false =>
      have h : (ob (regS P G call N ops.toList ops.toList T st) fun r => some (Ex.nor, r)) = some (x, T', st') := h
      replace h := ob_eq h
      obtain ⟨r, hr, h⟩ := h
      injection h with h
      injection h with e1 e2
      subst e1 e2
      have hall : (List.range ops.size).map (fun i => ops[i]?) = ops.toList.map some := by
        apply List.ext_getElem?
        intro i
        have e : ops.toList[i]? = ops[i]? := Array.getElem?_toList
        rw [List.getElem?_map, List.getElem?_map, e]
        by_cases hi : i < ops.size
        · rw [List.getElem?_range hi]; simp [hi]
        · rw [List.getElem?_eq_none (by rw [List.length_range]; omega), Array.getElem?_eq_none (by omega)]; rfl
      obtain ⟨k1, k2, _⟩ := regS_ok hcall (Q := fun _ _ _ => True) ops.toList (List.range ops.size) hall T T' st st' hr hf w0 p w a H hG hT
      refine ⟨k1, k2, fun Q hQ => wp_region ?_⟩
      exact (regS_ok hcall ops.toList (List.range ops.size) hall T T' st st' hr hf w0 p w a H hG hT).2.2 hQ
  | seq x y ihx ihy =>
    intro T T' st st' e h hf w0 p w a H hG hT
    have h : thenF (codeF P G call N L x T st) (codeF P G call N L y) = some (e, T', st') := h
    rcases thenF_eq h with ⟨T1, st1, h1, h2⟩ | ⟨h1, hx⟩
    · obtain ⟨k1, ⟨pr, wr, ar, kr, kt⟩, k3⟩ := ihx T T1 st st1 .nor h1 hf w0 p w a H hG hT
      obtain ⟨m1, ⟨p2, w2, a2, m2, mt⟩, _⟩ := ihy T1 T' st1 st' e h2 (k1.fresh hf) w0 pr wr ar kr.hr (hG.le kr.le) kt
      refine ⟨k1.trans m1, ⟨p2, w2, a2, kr.trans m2, mt⟩, fun Q hQ => wp_seq (k3 _ fun p1 w1 a1 hs1 hT1 => ?_)⟩
      exact (ihy T1 T' st1 st' e h2 (k1.fresh hf) w0 p1 w1 a1 hs1.hr (hG.le hs1.le) hT1).2.2 Q fun p' w' a' hs' hT' => hQ p' w' a' (hs1.trans hs') hT'
    · obtain ⟨k1, k2, k3⟩ := ihx T T' st st' e h1 hf w0 p w a H hG hT
      refine ⟨k1, k2, fun Q hQ => wp_seq (k3 _ fun p1 w1 a1 hs1 hT1 => ?_)⟩
      have := hQ p1 w1 a1 hs1 hT1
      cases e with
      | nor => exact absurd rfl hx
      | exit i => exact this
      | ret => exact this
  | cond c x y ihx ihy =>
    intro T T' st st' e h hf w0 p w a H hG hT
    have h : condF (opd G T c) (tl (codeF P G call N L x T st)) (tl (codeF P G call N L y T st)) = some (e, T', st') := h
    replace h := ob_eq h
    obtain ⟨u, hu, h⟩ := h
    split at h
    · rename_i b
      have hev : a.eval c = .bool b := (opd_fit H hG hT c _ hu).1
      cases b with
      | true =>
        obtain ⟨k1, k2, k3⟩ := ihx T T' st st' e h hf w0 p w a H hG hT
        exact ⟨k1, k2, fun Q hQ => wp_cond_true hev (k3 Q hQ)⟩
      | false =>
        obtain ⟨k1, k2, k3⟩ := ihy T T' st st' e h hf w0 p w a H hG hT
        exact ⟨k1, k2, fun Q hQ => wp_cond_false hev (k3 Q hQ)⟩
    · cases h
  | block id c ih =>
    intro T T' st st' e h hf w0 p w a H hG hT
    have h : blockF id (codeF P G call N L c T st) = some (e, T', st') := h
    replace h := ob_eq h
    obtain ⟨⟨e1, T1, st1⟩, hr, h⟩ := h
    cases e1 with
    | nor =>
      injection h with h
      simp only [Prod.mk.injEq] at h
      obtain ⟨rfl, rfl, rfl⟩ := h
      obtain ⟨k1, k2, k3⟩ := ih T T1 st st1 .nor hr hf w0 p w a H hG hT
      exact ⟨k1, k2, fun Q hQ => wp_block (k3 _ hQ)⟩
    | ret =>
      injection h with h
      simp only [Prod.mk.injEq] at h
      obtain ⟨rfl, rfl, rfl⟩ := h
      obtain ⟨k1, k2, k3⟩ := ih T T1 st st1 .ret hr hf w0 p w a H hG hT
      exact ⟨k1, k2, fun Q hQ => wp_block (k3 _ hQ)⟩
    | exit i =>
      have h : bif' (Nat.beq i id) (some (Ex.nor, T1, st1)) (some (Ex.exit i, T1, st1)) = some (e, T', st') := h
      obtain ⟨k1, k2, k3⟩ := ih T T1 st st1 (.exit i) hr hf w0 p w a H hG hT
      cases hb : Nat.beq i id with
      | true =>
        rw [hb, bif_true] at h
        injection h with h
        simp only [Prod.mk.injEq] at h
        obtain ⟨rfl, rfl, rfl⟩ := h
        have hi := Nat.eq_of_beq_eq_true hb
        exact ⟨k1, k2, fun Q hQ => wp_block (k3 _ fun p1 w1 a1 hs1 hT1 => by simp only [exOf, Exit.inBlock, hi, if_true]; exact hQ p1 w1 a1 hs1 hT1)⟩
      | false =>
        rw [hb, bif_false] at h
        injection h with h
        simp only [Prod.mk.injEq] at h
        obtain ⟨rfl, rfl, rfl⟩ := h
        have hi : i ≠ id := fun e => by subst e; simp at hb
        exact ⟨k1, k2, fun Q hQ => wp_block (k3 _ fun p1 w1 a1 hs1 hT1 => by simp only [exOf, Exit.inBlock, hi, if_false]; exact hQ p1 w1 a1 hs1 hT1)⟩
  | loop c ih =>
    intro T T' st st' e h hf w0 p w a H hG hT
    obtain ⟨k1, k2, k3⟩ := loop_does ih L T T' st st' e h hf w0 p w a H hG hT
    exact ⟨k1, k2, fun Q hQ => wp_loop_rounds L (k3 Q hQ)⟩
  | rangeFunc f ps as b _ _ => intro T T' st st' e h; cases h
  | exit id =>
    intro T T' st st' x h hf w0 p w a H hG hT
    injection h with h
    simp only [Prod.mk.injEq] at h
    obtain ⟨rfl, rfl, rfl⟩ := h
    exact ⟨Ab.refl _, ⟨p, w, a, Step.refl H, hT⟩, fun Q hQ => wp_exit (hQ p w a (Step.refl H) hT)⟩
  | scope b _ => intro T T' st st' e h; cases h
  | label l =>
    intro T T' st st' x h hf w0 p w a H hG hT
    injection h with h
    simp only [Prod.mk.injEq] at h
    obtain ⟨rfl, rfl, rfl⟩ := h
    exact ⟨Ab.refl _, ⟨p, w, a, Step.refl H, hT⟩, fun Q hQ => wp_label (hQ p w a (Step.refl H) hT)⟩
  | goto l => intro T T' st st' e h; cases h
  | ret =>
    intro T T' st st' x h hf w0 p w a H hG hT
    injection h with h
    simp only [Prod.mk.injEq] at h
    obtain ⟨rfl, rfl, rfl⟩ := h
    exact ⟨Ab.refl _, ⟨p, w, a, Step.refl H, hT⟩, fun Q hQ => wp_ret (hQ p w a (Step.refl H) hT)⟩
  | refuse s => intro T T' st st' e h; cases h

/-! Calls. -/
theorem fnOf_ok {P : Program} {f : FuncId} {c : Code} {n : Nat} {rs : List ResultVar} (h : fnOf P f = some (c, n, rs)) : ∃ fn, P.funcs[f]? = some fn ∧ fn.body = some c ∧ fn.ntmps = n ∧ fn.results.toList = rs ∧ (fn.name == "runtime.NumGoroutine") = false := by
  unfold fnOf at h
  split at h
  · rename_i fn hfn
    split at h
    · rename_i c' hb
      obtain ⟨h1, h2⟩ := bif_none h
      injection h2 with h2
      simp only [Prod.mk.injEq] at h2
      obtain ⟨rfl, rfl, rfl⟩ := h2
      exact ⟨fn, hfn, hb, rfl, rfl, h1⟩
    · cases h
  · cases h
/-- Arguments are the first temporaries. -/
theorem argsF_eq {β : Type} (k : Tr AV → β) : ∀ (l : List AV) (i : Nat) (T : Tr AV), (∀ t, i ≤ t → tget T t = .tup []) → ∃ T', List.rec (motive := fun _ => Nat → Tr AV → β) (fun (_ : Nat) T => k T) (fun v _ ih i T => T.put i v (ih (i + 1))) l i T = k T' ∧
    ∀ t, tget T' t = if t < i then tget T t else (l[t - i]?).getD (.tup []) := by
  intro l
  induction l with
  | nil =>
    intro i T hT
    refine ⟨T, rfl, fun t => ?_⟩
    by_cases h : t < i
    · rw [if_pos h]
    · rw [if_neg h, hT t (by omega)]; simp
  | cons v l ih =>
    intro i T hT
    obtain ⟨T', h1, h2⟩ := ih (i + 1) (T.set i v) fun t ht => by rw [tget_set, if_neg (by omega)]; exact hT t (by omega)
    refine ⟨T', ?_, fun t => ?_⟩
    · show T.put i v _ = _
      rw [Tr.put_eq]
      exact h1
    · rw [h2, tget_set]
      by_cases h : t < i
      · rw [if_pos (by omega), if_neg (by omega), if_pos h]
      · rw [if_neg h]
        by_cases h3 : t = i
        · subst h3; rw [if_pos (by omega), if_pos rfl]; simp
        · rw [if_neg (by omega), show t - i = (t - (i + 1)) + 1 by omega]; simp
theorem args_TR {p : Pls} {h : Hp} {l : List AV} (hl : WFL h l) {N : Nat} (hn : l.length ≤ N) {T : Tr AV} (hT : ∀ t, tget T t = (l[t]?).getD (.tup [])) :
    TR p h T { tmps := (concL p l).toArray ++ Array.replicate (N - (concL p l).toArray.size) undef, defers := [] } N := by
  have hs : (concL p l).toArray.size = l.length := by simp [concL_length]
  refine ⟨by simp [concL_length]; omega, fun t => ?_, rfl⟩
  rw [hT]
  cases hv : l[t]? with
  | some v =>
    have hlt := (List.getElem?_eq_some_iff.1 hv).1
    refine ⟨?_, hl.get hv⟩
    have e : ((concL p l).toArray ++ Array.replicate (N - (concL p l).toArray.size) undef)[t]? = some (conc p v) := by
      rw [Array.getElem?_append_left (by rw [hs]; exact hlt)]
      exact rowHolds l t v hv
    rw [Array.getD_eq_getD_getElem?, e]; rfl
  | none =>
    have hge : l.length ≤ t := List.getElem?_eq_none_iff.1 hv
    refine ⟨?_, trivial⟩
    rw [Array.getD_eq_getD_getElem?, Array.getElem?_append_right (by rw [hs]; exact hge)]
    rw [Array.getElem?_replicate]
    split <;> rfl

theorem results_ok {P : Program} {w0 : World} {p : Pls} {w : World} {st : St} {T : Tr AV} {a : Act} {N : Nat} (H : HR w0 p st.h.get w) (hT : TR p st.h.get T a N) : ∀ (l : List ResultVar) (vs : List AV), mapO (resF P T st) l = some vs →
    (l.mapM fun | .tmp t => pure (a.tmps.getD t undef) | .cell b t => (do loadVar t (← asAddr (a.tmps.getD b undef))) : Sem (List Value)).run P w = .ok (concL p vs) w ∧ WFL st.h.get vs := by
  intro l
  induction l with
  | nil => intro vs h; injection h with h; subst h; exact ⟨rfl, trivial⟩
  | cons r l ih =>
    intro vs h
    rw [mapO_cons] at h
    replace h := ob_eq h
    obtain ⟨v, hv, h⟩ := h
    replace h := ob_eq h
    obtain ⟨t, ht, h⟩ := h
    injection h with h
    subst h
    obtain ⟨h1, h2⟩ := ih t ht
    rw [List.mapM_cons]
    unfold resF at hv
    split at hv
    · injection hv with hv
      subst hv
      rename_i t'
      obtain ⟨k1, k2⟩ := hT.get t'
      exact ⟨by simp only [Sem.run_bind, Sem.run_pure, Result.andThen_ok, h1, k1, concL], k2, h2⟩
    · rename_i b t'
      obtain ⟨k1, k2⟩ := hT.get b
      obtain ⟨m1, m2⟩ := loadA_ok hv H
      refine ⟨?_, m2, h2⟩
      unfold loadA at hv
      split at hv
      · rename_i x c m off heq
        rw [heq] at k1 k2 m1
        obtain ⟨q, hq, e1⟩ := conc_ptr H.cov k2
        rw [e1] at k1 m1
        simp only [Instr.loadAt, Instr.sureAddr, Sem.run_bind, Sem.run_pure, Result.andThen_ok] at m1
        have ha : (asAddr (a.tmps.getD b undef)).run P w = .ok ⟨q.b, q.d + off, none⟩ w := by rw [k1]; rfl
        simp only [Sem.run_bind, Sem.run_pure, Result.andThen_ok, h1, ha, m1, concL]
      · cases hv

theorem call_ok {P : Program} {G : Nat → Bool} (hD : DrawOk P G) (L : Nat) : ∀ fuel, CallOk P G (callF P G L fuel) := by
  intro fuel
  induction fuel with
  | zero => intro f args st v st' h; cases h
  | succ fuel ih =>
    intro f args st v st' h hf hargs
    have h : (ob (fnOf P f) fun q => need (Nat.ble (lenL args) q.2.1) (argsF args fun T => endF (codeF P G (callF P G L fuel) q.2.1 L q.1 T st) fun T st => ob (resultsF P q.2.2 T st) fun v => some (v, st))) = some (v, st') := h
    replace h := ob_eq h
    obtain ⟨⟨c, n, rs⟩, hfn, h⟩ := h
    obtain ⟨fn, f1, f2, f3, f4, f5⟩ := fnOf_ok hfn
    replace h := need_eq h
    obtain ⟨hn, h⟩ := h
    replace hn := Nat.le_of_ble_eq_true hn
    rw [lenL_eq] at hn
    simp only at hn h
    refine ⟨⟨fn, f1, by rw [f2]; rfl, f5⟩, fun w0 p w H hG => ?_⟩
    obtain ⟨T, hT1, hT2⟩ := argsF_eq (fun T => endF (codeF P G (callF P G L fuel) n L c T st) fun T st => ob (resultsF P rs T st) fun v => some (v, st)) args 0 .nil fun t _ => rfl
    have h : endF (codeF P G (callF P G L fuel) n L c T st) (fun T st => ob (resultsF P rs T st) fun v => some (v, st)) = some (v, st') := hT1.symm.trans h
    replace h := ob_eq h
    obtain ⟨⟨e, T', st1⟩, hc, h⟩ := h
    have hTR : TR p st.h.get T { tmps := (concL p args).toArray ++ Array.replicate (n - (concL p args).toArray.size) undef, defers := [] } n := args_TR hargs hn fun t => by rw [hT2, if_neg (by omega), Nat.sub_zero]
    have he : (e = .nor ∨ e = .ret) ∧ (ob (resultsF P rs T' st1) fun v => some (v, st1)) = some (v, st') := by
      cases e with
      | nor => exact ⟨.inl rfl, h⟩
      | exit i => cases h
      | ret => exact ⟨.inr rfl, h⟩
    obtain ⟨he, h⟩ := he
    replace h := ob_eq h
    obtain ⟨u, hu, h⟩ := h
    injection h with h
    injection h with e1 e2
    subst e1 e2
    obtain ⟨k1, _, k3⟩ := code_does hD ih n L c T T' st st1 e hc hf w0 p w _ H hG hTR
    refine ⟨k1, ?_⟩
    refine calls_of_wp f1 f2 ?_
    rw [f3]
    refine k3 _ fun p' w' a' hs hT' => ?_
    have hres : ∃ val, (results fn a'.tmps).run P w' = .ok val w' ∧ val = conc p' u ∧ WF st1.h.get u := by
      unfold resultsF at hu
      obtain ⟨vs, hvs, hu⟩ := ob_eq hu
      obtain ⟨m1, m2⟩ := results_ok hs.hr hT' rs vs hvs
      refine ⟨conc p' u, ?_, rfl, ?_⟩
      · unfold results
        rw [Sem.run_bind, Array.mapM_eq_mapM_toList, Sem.run_map, f4]
        erw [m1]
        simp only [Result.andThen_ok, Sem.run_pure]
        cases vs with
        | nil => injection hu with hu; subst hu; rfl
        | cons x vs => cases vs with
          | nil => injection hu with hu; subst hu; rfl
          | cons y vs => injection hu with hu; subst hu; simp [concL, conc]
      · cases vs with
        | nil => injection hu with hu; subst hu; trivial
        | cons x vs => cases vs with
          | nil => injection hu with hu; subst hu; exact m2.1
          | cons y vs => injection hu with hu; subst hu; exact m2
    obtain ⟨val, h1, h2, h3⟩ := hres
    have : a'.defers = [] ∧ ∃ v, (results fn a'.tmps).run P w' = .ok v w' ∧ CPost w0 p w st1 u (.returned v) w' := ⟨hT'.defers, val, h1, p', by rw [h2], hs, h3⟩
    rcases he with rfl | rfl
    · exact this
    · exact this

end Go.Proofs.Ytaoglicedcgnoaa
