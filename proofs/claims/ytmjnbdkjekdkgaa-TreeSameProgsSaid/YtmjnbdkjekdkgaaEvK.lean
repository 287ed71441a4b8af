/-
  A reckoner for closed calls: what operations, regions in the order of their text, code and calls do in the model; a region that draws is taken as it is handed in.
-/
import Derived.Test.YtmjnbdkjekdkgaaEvJ
import Derived.OrdersIn
import Derived.LoopNIn
import Derived.RangeFuncLeaves
import Derived.TacticsIn
import Derived.RangeFuncRecord
namespace Go.Proofs.Ytmjnbdkjekdkgaa
open Go
set_option linter.unusedVariables false
set_option linter.unusedSimpArgs false

/-- The fence that lets all by, in a function or in a round. -/
abbrev FR (r : Option Nat) : Fence := { fn := fun _ => True, depth := none, alive := false, round := r }
theorem callsIn_FR {r : Option Nat} {n : Nat} {P : Program} {f : FuncId} {args : Array Value} {w : World} {R : Ending → World → Prop} : CallsIn (FR r) n P f args w R ↔ Calls P f args w R := callsIn_wide (n := n)
theorem no_defer {P : Program} {ρ : Operand → Value} {o : Oper} {x : Next} {w w' : World} (h : (execOp ρ o).run P w = .ok x w') (hx : ∀ d, x ≠ .defer d) : ∀ c, o.op ≠ .defer c := by
  intro c hc
  obtain ⟨dst, op, type, pos, after, guard⟩ := o
  simp only at hc
  subst hc
  simp only [execOp, Sem.run_bind] at h
  cases hr : (resolve ρ c type).run P w with
  | ok d w1 =>
    rw [hr] at h
    simp only [Result.andThen_ok, Sem.run_pure] at h
    injection h with h1 h2
    exact hx _ h1.symm
  | halt e w1 => rw [hr] at h; cases h
theorem wpIn_val {r : Option Nat} {P : Program} {o : Oper} {a : Act} {w w' : World} {next : Act → World → Prop} {Q : Exit → Act → World → Prop} {v : Value} (h : (execOp a.eval o).run P w = .ok (.value v) w') (hn : next (a.put o.dst v) w') : o.wpIn (FR r) 0 P a w next Q := by
  refine ⟨fun _ _ => trivial, ?_⟩
  rw [Oper.semAt_eq _ _ _ (no_defer h fun d e => nomatch e), h]
  exact hn
theorem wpIn_skipped {r : Option Nat} {P : Program} {o : Oper} {a : Act} {w w' : World} {next : Act → World → Prop} {Q : Exit → Act → World → Prop} (h : (execOp a.eval o).run P w = .ok .skip w') (hn : next (a.put o.dst undef) w') : o.wpIn (FR r) 0 P a w next Q := by
  refine ⟨fun _ _ => trivial, ?_⟩
  rw [Oper.semAt_eq _ _ _ (no_defer h fun d e => nomatch e), h]
  exact hn
theorem wpIn_enter {r : Option Nat} {P : Program} {o : Oper} {a : Act} {w w' : World} {next : Act → World → Prop} {Q : Exit → Act → World → Prop} {f : FuncId} {args : Array Value} (h : (execOp a.eval o).run P w = .ok (.enter f args) w')
    (hn : Calls P f args w' fun
      | .returned v, w'' => next (a.put o.dst v) w''
      | .panicked chain, w'' => Q (.panic chain) a w''
      | .outgrown, _ => LetsOut Q) : o.wpIn (FR r) 0 P a w next Q := by
  refine ⟨fun _ _ => trivial, ?_⟩
  rw [Oper.semAt_eq _ _ _ (no_defer h fun d e => nomatch e), h]
  exact ⟨fun h => (by cases h), callsIn_FR.2 hn⟩

/-- Temporaries. -/
structure TR (p : Pls) (h : Hp) (T : Tr AV) (a : Act) (N : Nat) (ds : List Deferred) : Prop where
  size : a.tmps.size = N
  get : ∀ t, a.tmps.getD t undef = conc p (tget T t) ∧ WF h (tget T t)
  defers : a.defers = ds
/-- The variables of the program that are known. -/
def GOK (p : Pls) (G : Env) : Prop := ∀ g, G.g g = true → ∃ e, p g 0 = some ⟨g, 0, e⟩
theorem GOK.le {p q : Pls} {G : Env} (h : GOK p G) (hl : Pls.le p q) : GOK q G := fun g hg => by
  obtain ⟨e, he⟩ := h g hg
  exact ⟨e, hl _ _ _ he⟩
theorem TR.step {w0 : World} {p p' : Pls} {h h' : Hp} {w w' : World} {T : Tr AV} {a : Act} {N : Nat} {ds : List Deferred} (hT : TR p h T a N ds) (H : HR w0 p h w) (hs : Step w0 p w p' h' w') (hg : Grow h h') : TR p' h' T a N ds :=
  ⟨hT.size, fun t => by
    obtain ⟨h1, h2⟩ := hT.get t
    exact ⟨by rw [conc_le H.cov hs.le _ h2]; exact h1, WF.grow hg _ h2⟩, hT.defers⟩
theorem tget_set (T : Tr AV) (d : Nat) (v : AV) (t : Nat) : tget (T.set d v) t = if t = d then v else tget T t := by
  unfold tget
  rw [Tr.get_set]
  by_cases h : t = d
  · rw [if_pos h, if_pos h]
  · rw [if_neg h, if_neg h]
theorem TR.put {p : Pls} {h : Hp} {T : Tr AV} {a : Act} {N d : Nat} {ds : List Deferred} {v : AV} (hT : TR p h T a N ds) (hv : WF h v) (hd : d < N) : TR p h (T.set d v) (a.put (some d) (conc p v)) N ds := by
  refine ⟨by simp [Act.put, hT.size], fun t => ?_, hT.defers⟩
  rw [tget_set]
  by_cases ht : t = d
  · subst ht
    rw [if_pos rfl]
    refine ⟨?_, hv⟩
    have : t < a.tmps.size := by rw [hT.size]; exact hd
    simp [Act.put, this]
  · rw [if_neg ht]
    refine ⟨?_, (hT.get t).2⟩
    rw [← (hT.get t).1]
    simp [Act.put, Array.getElem?_setIfInBounds_ne (Ne.symm ht)]
theorem opd_fit {w0 : World} {p : Pls} {h : Hp} {w : World} {G : Env} {T : Tr AV} {a : Act} {N : Nat} {ds : List Deferred} (H : HR w0 p h w) (hG : GOK p G) (hT : TR p h T a N ds) : RFit (opd G T) a.eval p h := by
  intro x v hx
  unfold opd at hx
  split at hx
  · injection hx with hx
    subst hx
    exact hT.get _
  · obtain ⟨h1, h2⟩ := ofConst_ok p h hx
    exact ⟨h1.symm, h2⟩
  · obtain ⟨h1, h2⟩ := need_eq hx
    injection h2 with h2
    subst h2
    rename_i g
    obtain ⟨e, he⟩ := hG g h1
    obtain ⟨C, hC, hm⟩ := H.dom g 0 _ he
    refine ⟨?_, C, hC, hm⟩
    simp only [conc, he, Act.eval, Nat.add_zero]
  · injection hx with hx
    subst hx
    exact ⟨rfl, trivial, trivial⟩

/-- What a call does. -/
def CPost (w0 : World) (p : Pls) (w : World) (st' : St) (v : AV) (e : Ending) (w' : World) : Prop := ∃ p', e = .returned (conc p' v) ∧ Step w0 p w p' st'.h.get w' ∧ WF st'.h.get v
def CallOk (P : Program) (G : Env) (call : CallF) : Prop := ∀ f args st v st', call f args st = some (v, st') → Fresh st → WFL st.h.get args →
  (∃ fn, P.funcs[f]? = some fn ∧ fn.body.isSome = true ∧ (fn.name == "runtime.NumGoroutine") = false) ∧
  ∀ w0 p w, HR w0 p st.h.get w → GOK p G → Ab st st' ∧ Calls P f (concL p args).toArray w (CPost w0 p w st' v)

/-- What an operation does. -/
theorem opF_ok {P : Program} {G : Env} {call : CallF} (hcall : CallOk P G call) {o : Oper} {R : Operand → Option AV} {st st' : St} {v : AV} (h : opF P R call o st = some (v, st')) (hf : Fresh st)
    {w0 : World} {p : Pls} {w : World} {a : Act} (H : HR w0 p st.h.get w) (hG : GOK p G) (hT : RFit R a.eval p st.h.get) :
    Ab st st' ∧ (∃ p' w', Step w0 p w p' st'.h.get w' ∧ WF st'.h.get v) ∧
    ∀ (r : Option Nat) (next : Act → World → Prop) (Q : Exit → Act → World → Prop), (∀ p' w', Step w0 p w p' st'.h.get w' → WF st'.h.get v → next (a.put o.dst (conc p' v)) w') → o.wpIn (FR r) 0 P a w next Q := by
  have plain : ∀ (ha : aop P R o.op st = some (v, st')), Ab st st' ∧ (∃ p' w', Step w0 p w p' st'.h.get w' ∧ WF st'.h.get v) ∧
      ∀ (r : Option Nat) (next : Act → World → Prop) (Q : Exit → Act → World → Prop), (∀ p' w', Step w0 p w p' st'.h.get w' → WF st'.h.get v → next (a.put o.dst (conc p' v)) w') → o.wpIn (FR r) 0 P a w next Q := by
    intro ha
    obtain ⟨h1, h2⟩ := aop_sim o ha hf fun x v hx => (hT x v hx).2
    obtain ⟨p', w', h3, h4, h5⟩ := h2 w0 p w a.eval H hT
    refine ⟨h1, ⟨p', w', h4, h5⟩, fun r next Q hn => ?_⟩
    rcases h3 with h3 | ⟨h3, h6⟩
    · exact wpIn_val h3 (hn p' w' h4 h5)
    · exact wpIn_skipped h3 (h6 ▸ hn p' w' h4 h5)
  unfold opF at h
  split at h
  · rename_i c hop
    split at h
    · rename_i f hcf
      replace h := ob_eq h
      obtain ⟨u, hu, h⟩ := h
      split at h
      · rename_i fid first cap
        replace h := ob_eq h
        obtain ⟨l, hl, h⟩ := h
        rw [appL_eq, appL_eq] at h
        obtain ⟨k1, k2, k3⟩ := hT f _ hu
        obtain ⟨m1, m2⟩ := rows_ok hT _ _ hl
        have hwf : WFL st.h.get (first ++ (l ++ cap)) := (WFL_iff _ _).2 fun x hx => by
          rcases List.mem_append.1 hx with hx | hx
          · exact (WFL_iff _ _).1 k2 x hx
          · rcases List.mem_append.1 hx with hx | hx
            · exact (WFL_iff _ _).1 m2 x hx
            · exact (WFL_iff _ _).1 k3 x hx
        obtain ⟨⟨fn, f1, f2, f3⟩, hc⟩ := hcall _ _ _ _ _ h hf hwf
        obtain ⟨hab, hc⟩ := hc w0 p w H hG
        refine ⟨hab, ?_, fun r next Q hn => ?_⟩
        · obtain ⟨e, w', fr, ⟨p', he, hs, hw⟩, _⟩ := hc []
          exact ⟨p', w', hs, hw⟩
        · have hrun : (execOp a.eval o).run P w = .ok (.enter fid (concL p (first ++ (l ++ cap))).toArray) w := by
            obtain ⟨dst, op, type, pos, after, guard⟩ := o
            simp only at hop
            subst hop
            have e1 : c.args.map a.eval = (concL p l).toArray := by apply Array.ext'; rw [Array.toList_map]; exact m1
            have e2 : (concL p first).toArray ++ (concL p l).toArray ++ (concL p cap).toArray = (concL p (first ++ (l ++ cap))).toArray := by
              rw [concL_eq, concL_eq, concL_eq, concL_eq, List.map_append, List.map_append]
              simp
            have f2' : fn.body.isNone = false := by cases hb : fn.body <;> simp_all
            simp only [execOp, resolve, hcf, e1, k1, conc, Deferred.ofValue, Sem.run_bind, Sem.run_pure, Result.andThen_ok, invoke, callFunc, run_program, f1, f3, f2', Bool.false_eq_true, if_false, e2]
          refine wpIn_enter hrun (hc.mono fun e w' => ?_)
          rintro ⟨p', rfl, hs, hw⟩
          exact hn p' w' hs hw
      · cases h
    · exact plain h
  · exact plain h

theorem opF_congr {P : Program} {R R' : Operand → Option AV} {call : CallF} {o : Oper} {st : St} (h : ∀ x ∈ o.op.operands, R x = R' x) : opF P R call o st = opF P R' call o st := by
  have hp := aop_congr (P := P) o.op st h
  unfold opF
  split
  · rename_i c hop
    rw [hop] at h hp
    split
    · rename_i f hcf
      have hf : R f = R' f := h f (by simp [Op.operands, Call.operands, hcf])
      have ha : mapO R c.args.toList = mapO R' c.args.toList := mapO_congr _ fun x hx => h x (by simp [Op.operands, Call.operands, hcf]; exact .inr (by simpa using hx))
      rw [hf, ha]
    · rw [hop]; exact hp
  · exact hp

theorem conc_bool {p : Pls} {v : AV} {b : Bool} (h : conc p v = .bool b) : v = .bool b := by
  cases v with
  | bool c => rw [conc] at h; injection h with h; rw [h]
  | ptr c m off => rw [conc] at h; split at h <;> cases h
  | sl c m off len esz => rw [conc] at h; split at h <;> cases h
  | slz c m off a esz => rw [conc] at h; split at h <;> cases h
  | mp c => rw [conc] at h; split at h <;> cases h
  | _ => rw [conc] at h; cases h
theorem dstOf_eq (ops : Array Oper) (j : Nat) : dstOf ops.toList j = (ops[j]?).bind (·.dst) := by
  unfold dstOf
  rw [nth_eq, Array.getElem?_toList]
  cases ops[j]? <;> rfl
/-- Of the guard's temporary alone. -/
theorem wants_eq {ops : Array Oper} {o : Oper} {T : Tr AV} {a : Act} {p : Pls} {N : Nat} (hN : a.tmps.size = N) (hT : ∀ g t, o.guard = some g → dstOf ops.toList g.1 = some t → a.tmps.getD t undef = conc p (tget T t)) :
    Region.wanted o (yielded ops a.tmps) = wants ops.toList o T := by
  unfold Region.wanted wants
  cases hg : o.guard with
  | none => rfl
  | some g =>
    obtain ⟨j, want⟩ := g
    simp only
    unfold yielded
    have hd := dstOf_eq ops j
    cases hj : (ops[j]?).bind (·.dst) with
    | none => rw [hj] at hd; rw [hd]; rfl
    | some t =>
      rw [hj] at hd
      have ht := hT _ t hg hd
      rw [hd]
      simp only [Option.bind_some]
      by_cases hlt : t < a.tmps.size
      · have e : a.tmps[t]? = some (conc p (tget T t)) := by rw [← ht]; simp [hlt]
        rw [e]
        cases hv : tget T t with
        | bool b => cases b <;> cases want <;> rfl
        | _ =>
          have : ∀ b, conc p (tget T t) ≠ .bool b := fun b hb => by have := conc_bool hb; rw [hv] at this; cases this
          rw [hv] at this
          simp only
          split
          · rename_i b hb; injection hb with hb; exact absurd hb (this b)
          · rfl
      · have e : a.tmps[t]? = none := Array.getElem?_eq_none (Nat.le_of_not_lt hlt)
        have e2 : a.tmps.getD t undef = undef := by simp [hlt]
        rw [e2] at ht
        rw [e]
        cases hv : tget T t with
        | bool b => rw [hv] at ht; cases ht
        | _ => rfl

/-- What an operation of a region does, its guard asked. -/
theorem stepF_ok {P : Program} {G : Env} {call : CallF} (hcall : CallOk P G call) {ops : Array Oper} {o : Oper} {T : Tr AV} {st st' : St} {v : AV} (h : stepF P G call ops.toList o T st = some (v, st')) (hf : Fresh st)
    {w0 : World} {p : Pls} {w : World} {a : Act} {N : Nat} {ds : List Deferred} (H : HR w0 p st.h.get w) (hG : GOK p G) (hT : TR p st.h.get T a N ds) :
    Ab st st' ∧ (∃ p' w', Step w0 p w p' st'.h.get w' ∧ WF st'.h.get v) ∧
    ∀ (r : Option Nat) (i : Nat) (K : Act → World → Prop) (Q : Exit → Act → World → Prop), ops[i]? = some o → (∀ p' w', Step w0 p w p' st'.h.get w' → WF st'.h.get v → K (a.put o.dst (conc p' v)) w') → wpOpIn (FR r) 0 P ops Q i K a w := by
  have hw := wants_eq (ops := ops) (o := o) (p := p) hT.size fun g t _ _ => (hT.get t).1
  unfold stepF at h
  cases hq : wants ops.toList o T with
  | true =>
    rw [hq, bif_true] at h
    obtain ⟨h1, h2, h3⟩ := opF_ok hcall h hf H hG (opd_fit H hG hT)
    refine ⟨h1, h2, fun r i K Q hi hK => ?_⟩
    unfold wpOpIn
    rw [hi]
    simp only [hw, hq, if_true]
    exact h3 r K Q hK
  | false =>
    rw [hq, bif_false] at h
    injection h with h
    injection h with e1 e2
    subst e1 e2
    refine ⟨Ab.refl _, ⟨p, w, Step.refl H, trivial⟩, fun r i K Q hi hK => ?_⟩
    unfold wpOpIn
    rw [hi]
    simp only [hw, hq, Bool.false_eq_true, if_false]
    refine ⟨fun _ _ => trivial, ?_⟩
    exact hK p w (Step.refl H) trivial

theorem putF_eq {β : Type} {N : Nat} {dst : Option Nat} {v : AV} {T : Tr AV} {k : Tr AV → Option β} {x : β} (h : putF N dst v T k = some x) :
    (dst = none ∧ k T = some x) ∨ ∃ d, dst = some d ∧ d < N ∧ k (T.set d v) = some x := by
  cases dst with
  | none => exact .inl ⟨rfl, h⟩
  | some d =>
    have h : need (Nat.ble (d + 1) N) (T.put d v k) = some x := h
    obtain ⟨h1, h2⟩ := need_eq h
    rw [Tr.put_eq] at h2
    exact .inr ⟨d, rfl, Nat.le_of_ble_eq_true h1, h2⟩

theorem regS_ok {P : Program} {G : Env} {call : CallF} (hcall : CallOk P G call) {N : Nat} {ds : List Deferred} {r : Option Nat} {ops : Array Oper} {Q : Exit → Act → World → Prop} : ∀ (l : List Oper) (is : List Nat), is.map (fun i => ops[i]?) = l.map some →
    ∀ (T T' : Tr AV) (st st' : St), regS P G call N ops.toList l T st = some (T', st') → Fresh st →
    ∀ (w0 : World) (p : Pls) (w : World) (a : Act), HR w0 p st.h.get w → GOK p G → TR p st.h.get T a N ds →
    Ab st st' ∧ (∃ p' w' a', Step w0 p w p' st'.h.get w' ∧ TR p' st'.h.get T' a' N ds) ∧ ((∀ p' w' a', Step w0 p w p' st'.h.get w' → TR p' st'.h.get T' a' N ds → Q .normal a' w') → wpOpsIn (FR r) 0 P ops Q is a w) := by
  intro l
  induction l with
  | nil =>
    intro is his T T' st st' h hf w0 p w a H hG hT
    have : is = [] := by cases is with
      | nil => rfl
      | cons i is => simp at his
    subst this
    injection h with h
    injection h with e1 e2
    subst e1 e2
    exact ⟨Ab.refl _, ⟨p, w, a, Step.refl H, hT⟩, fun hQ => hQ p w a (Step.refl H) hT⟩
  | cons o l ih =>
    intro is his T T' st st' h hf w0 p w a H hG hT
    cases is with
    | nil => simp at his
    | cons i is =>
      simp only [List.map_cons, List.cons.injEq] at his
      obtain ⟨hi, his⟩ := his
      have h : (ob (stepF P G call ops.toList o T st) fun r => putF N o.dst r.1 T fun T => tl (regS P G call N ops.toList l T r.2)) = some (T', st') := h
      replace h := ob_eq h
      obtain ⟨⟨v, st1⟩, hs, h⟩ := h
      obtain ⟨k1, ⟨pr, wr, kr, kw⟩, k3⟩ := stepF_ok hcall hs hf H hG hT
      have hf1 := k1.fresh hf
      simp only at h
      rw [wpOpsIn_cons]
      rcases putF_eq h with ⟨hd, h⟩ | ⟨d, hd, hdN, h⟩
      · obtain ⟨hreal, ⟨p2, w2, a2, m2, mt⟩, _⟩ := ih is his T T' st1 st' h hf1 w0 pr wr a kr.hr (hG.le kr.le) (hT.step H kr k1.grow)
        refine ⟨k1.trans hreal, ⟨p2, w2, a2, kr.trans m2, mt⟩, fun hQ => k3 r i _ Q hi fun p1 w1 hs1 hw1 => ?_⟩
        rw [hd]
        refine (ih is his T T' st1 st' h hf1 w0 p1 w1 a hs1.hr (hG.le hs1.le) (hT.step H hs1 k1.grow)).2.2 fun p' w' a' hs' hT' => hQ p' w' a' (hs1.trans hs') hT'
      · obtain ⟨hreal, ⟨p2, w2, a2, m2, mt⟩, _⟩ := ih is his _ T' st1 st' h hf1 w0 pr wr _ kr.hr (hG.le kr.le) ((hT.step H kr k1.grow).put kw hdN)
        refine ⟨k1.trans hreal, ⟨p2, w2, a2, kr.trans m2, mt⟩, fun hQ => k3 r i _ Q hi fun p1 w1 hs1 hw1 => ?_⟩
        rw [hd]
        refine (ih is his _ T' st1 st' h hf1 w0 p1 w1 _ hs1.hr (hG.le hs1.le) ((hT.step H hs1 k1.grow).put hw1 hdN)).2.2 fun p' w' a' hs' hT' => hQ p' w' a' (hs1.trans hs') hT'

/-- What is asked of regions that draw. -/
def DrawOk (P : Program) (G : Env) : Prop := ∀ (call : CallF), CallOk P G call → ∀ (N : Nat) (ops : Array Oper) (pl : List (Nat × Oper × Nat)), planOf P ops.toList = some pl →
  ∀ (T T' : Tr AV) (st st' : St), regD P G call N ops.toList pl T st [st] = some (T', st') → Fresh st →
  ∀ (w0 : World) (p : Pls) (w : World) (a : Act) (ds : List Deferred), HR w0 p st.h.get w → GOK p G → TR p st.h.get T a N ds →
  Ab st st' ∧ (∃ p' w' a', Step w0 p w p' st'.h.get w' ∧ TR p' st'.h.get T' a' N ds) ∧ ∀ (r : Option Nat) (id : Nat) (Q : Exit → Act → World → Prop), (∀ p' w' a', Step w0 p w p' st'.h.get w' → TR p' st'.h.get T' a' N ds → Q .normal a' w') → (Code.region id ops true).wpIn (FR r) 0 P Q a w

def exOf : Ex → Exit
  | .nor => .normal
  | .exit i => .exit i
  | .ret => .ret

theorem thenF_eq {r : Option (Ex × Tr AV × St)} {k : Tr AV → St → Option (Ex × Tr AV × St)} {x : Ex × Tr AV × St} (h : thenF r k = some x) :
    (∃ T st, r = some (.nor, T, st) ∧ k T st = some x) ∨ (r = some x ∧ x.1 ≠ .nor) := by
  replace h := ob_eq h
  obtain ⟨⟨e, T, st⟩, hr, h⟩ := h
  cases e with
  | nor => exact .inl ⟨T, st, hr, h⟩
  | exit i => injection h with h; subst h; exact .inr ⟨hr, by intro e; cases e⟩
  | ret => injection h with h; subst h; exact .inr ⟨hr, by intro e; cases e⟩

/-- The marks that ranges over functions leave with the calls that are put off. -/
structure DOk (s0 : Nat) (p : Pls) (w : World) (ds : List Deferred) : Prop where
  all : ∀ d ∈ ds, ∃ D, d = { target := .collected D, args := #[] } ∧ w.heap[D]? = some (.deferred (some [])) ∧ (∀ c m x, p c m = some x → x.b ≠ D) ∧ s0 ≤ D
  nodup : ds.Nodup
  le : s0 ≤ w.heap.size
theorem DOk.nil {p : Pls} {w : World} : DOk w.heap.size p w [] := ⟨fun d hd => (by cases hd), List.nodup_nil, Nat.le_refl _⟩
theorem lt_of_heap {w : World} {D : Nat} {o : Obj} (h : w.heap[D]? = some o) : D < w.heap.size := (Array.getElem?_eq_some_iff.1 h).1
/-- A block that holds no class goes on holding none, and is kept. -/
theorem Step.unplaced {w0 : World} {p p' : Pls} {h' : Hp} {w w' : World} (hs : Step w0 p w p' h' w') {D : Nat} (hD : D < w.heap.size) (hu : ∀ c m x, p c m = some x → x.b ≠ D) :
    w'.heap[D]? = w.heap[D]? ∧ ∀ c m x, p' c m = some x → x.b ≠ D := by
  refine ⟨hs.fr.keep D hD hu, fun c m x hx e => ?_⟩
  cases hp : p c m with
  | some y =>
    have := hs.le c m y hp
    rw [hx] at this
    injection this with this
    subst this
    exact hu c m x hp e
  | none =>
    rcases hs.new c m x hx hp with h | ⟨m0, x0, h, e0⟩
    · omega
    · exact hu c m0 x0 h (by rw [e0, e])
theorem DOk.step {w0 : World} {s0 : Nat} {p p' : Pls} {h' : Hp} {w w' : World} {ds : List Deferred} (hd : DOk s0 p w ds) (hs : Step w0 p w p' h' w') : DOk s0 p' w' ds :=
  ⟨fun d h => by
    obtain ⟨D, h1, h2, h3, h4⟩ := hd.all d h
    obtain ⟨k1, k2⟩ := hs.unplaced (lt_of_heap h2) h3
    exact ⟨D, h1, by rw [k1]; exact h2, k2, h4⟩, hd.nodup, Nat.le_trans hd.le hs.fr.size⟩

/-- What a piece of code does, in a function or in a round. -/
def Does (P : Program) (G : Env) (N : Nat) (f : Tr AV → St → Option (Ex × Tr AV × St)) (wpf : (Exit → Act → World → Prop) → Act → World → Prop) : Prop :=
  ∀ (T T' : Tr AV) (st st' : St) (x : Ex), f T st = some (x, T', st') → Fresh st → ∀ (w0 : World) (s0 : Nat) (p : Pls) (w : World) (a : Act) (ds : List Deferred), HR w0 p st.h.get w → GOK p G → TR p st.h.get T a N ds → DOk s0 p w ds →
  Ab st st' ∧ (∃ p' w' a' ds', Step w0 p w p' st'.h.get w' ∧ TR p' st'.h.get T' a' N ds' ∧ DOk s0 p' w' ds') ∧
    ∀ (Q : Exit → Act → World → Prop), (∀ p' w' a' ds', Step w0 p w p' st'.h.get w' → TR p' st'.h.get T' a' N ds' → DOk s0 p' w' ds' → Q (exOf x) a' w') → wpf Q a w

theorem loop_does {P : Program} {G : Env} {N : Nat} {r : Option Nat} {c : Code} {f : Tr AV → St → Option (Ex × Tr AV × St)} (hf : Does P G N f (fun Q a w => c.wpIn (FR r) 0 P Q a w)) : ∀ L, Does P G N (loopF L f) (fun Q a w => Code.roundsIn (FR r) 0 P c Q L a w) := by
  intro L
  induction L with
  | zero => intro T T' st st' x h; cases h
  | succ L ih =>
    intro T T' st st' x h hfr w0 s0 p w a ds H hG hT hD
    have h : thenF (f T st) (loopF L f) = some (x, T', st') := h
    rcases thenF_eq h with ⟨T1, st1, h1, h2⟩ | ⟨h1, hx⟩
    · obtain ⟨k1, ⟨pr, wr, ar, dr, kr, kt, kd⟩, k3⟩ := hf T T1 st st1 .nor h1 hfr w0 s0 p w a ds H hG hT hD
      obtain ⟨m1, ⟨p2, w2, a2, d2, m2, mt, md⟩, _⟩ := ih T1 T' st1 st' x h2 (k1.fresh hfr) w0 s0 pr wr ar dr kr.hr (hG.le kr.le) kt kd
      refine ⟨k1.trans m1, ⟨p2, w2, a2, d2, kr.trans m2, mt, md⟩, fun Q hQ => ?_⟩
      show Code.roundsIn (FR r) 0 P c Q (L + 1) a w
      rw [roundsIn_succ]
      refine k3 _ fun p1 w1 a1 d1 hs1 hT1 hD1 => ?_
      exact (ih T1 T' st1 st' x h2 (k1.fresh hfr) w0 s0 p1 w1 a1 d1 hs1.hr (hG.le hs1.le) hT1 hD1).2.2 Q fun p' w' a' d' hs' hT' hD' => hQ p' w' a' d' (hs1.trans hs') hT' hD'
    · obtain ⟨k1, k2, k3⟩ := hf T T' st st' x h1 hfr w0 s0 p w a ds H hG hT hD
      refine ⟨k1, k2, fun Q hQ => ?_⟩
      show Code.roundsIn (FR r) 0 P c Q (L + 1) a w
      rw [roundsIn_succ]
      refine k3 _ fun p1 w1 a1 d1 hs1 hT1 hD1 => ?_
      have := hQ p1 w1 a1 d1 hs1 hT1 hD1
      cases x with
      | nor => exact absurd rfl hx
      | exit i => exact this
      | ret => exact this

end Go.Proofs.Ytmjnbdkjekdkgaa
