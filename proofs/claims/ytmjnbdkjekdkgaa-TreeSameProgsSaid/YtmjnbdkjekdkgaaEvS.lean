/-
  A reckoner for closed calls: a range over a row from behind (the library's iterator), a round's frame.
-/
import Derived.Test.YtmjnbdkjekdkgaaEvK
namespace Go.Proofs.Ytmjnbdkjekdkgaa
open Go
set_option linter.unusedVariables false
set_option linter.unusedSimpArgs false

/-- The iterator's code, with its types: numbers, truths, the loop's body, addresses; the row, its elements. -/
def backCode (ti tb ty tz ts te : TypeId) : Code :=
  (Code.region 0 #[
      { dst := some 4, op := .load ts (.tmp 1), type := ts, pos := "iter.go:28", after := #[], guard := none },
      { dst := some 5, op := .call { callee := .builtin .len, args := #[.tmp 4], argTypes := #[ts] }, type := ti, pos := "iter.go:28", after := #[{ on := 0, ground := .data }], guard := none },
      { dst := some 6, op := .binOp .sub ti (.tmp 5) (.const (.int .i64 1)) ti, type := ti, pos := "iter.go:28", after := #[{ on := 1, ground := .data }], guard := none },
      { dst := some 3, op := .assign (.tmp 6), type := ti, pos := "iter.go:28", after := #[{ on := 2, ground := .data }, { on := 0, ground := .phase }, { on := 1, ground := .phase }, { on := 2, ground := .phase }], guard := none }] false).seq
  (Code.block 0 (Code.loop
    (((Code.region 1 #[
        { dst := some 7, op := .move (.tmp 3), type := ti, pos := "iter.go:28", after := #[], guard := none },
        { dst := some 8, op := .binOp .geq ti (.tmp 7) (.const (.int .i64 0)) ti, type := tb, pos := "iter.go:28", after := #[{ on := 0, ground := .data }], guard := none }] false).seq
      (Code.cond (.tmp 8) Code.skip (Code.exit 0))).seq
    ((Code.block 1
      ((Code.region 3 #[
          { dst := some 11, op := .move (.tmp 0), type := ty, pos := "iter.go:29", after := #[], guard := none },
          { dst := some 12, op := .move (.tmp 3), type := ti, pos := "iter.go:29", after := #[], guard := none },
          { dst := some 13, op := .load ts (.tmp 1), type := ts, pos := "iter.go:29", after := #[], guard := none },
          { dst := some 14, op := .move (.tmp 3), type := ti, pos := "iter.go:29", after := #[], guard := none },
          { dst := some 15, op := .indexAddr ts (.tmp 13) (.tmp 14), type := tz, pos := "iter.go:29", after := #[{ on := 2, ground := .data }, { on := 3, ground := .data }], guard := none },
          { dst := some 16, op := .load te (.tmp 15), type := te, pos := "iter.go:29", after := #[{ on := 4, ground := .data }], guard := none },
          { dst := some 17, op := .call { callee := .value (.tmp 11), args := #[.tmp 12, .tmp 16], argTypes := #[ti, te] }, type := tb, pos := "iter.go:29", after := #[{ on := 0, ground := .data }, { on := 1, ground := .data }, { on := 5, ground := .data }], guard := none },
          { dst := some 18, op := .unOp .not tb (.tmp 17), type := tb, pos := "iter.go:29", after := #[{ on := 6, ground := .data }], guard := none }] false).seq
        (Code.cond (.tmp 18) Code.ret Code.skip))).seq
    (Code.region 2 #[
        { dst := some 9, op := .move (.tmp 3), type := ti, pos := "iter.go:28", after := #[], guard := none },
        { dst := some 10, op := .binOp .sub ti (.tmp 9) (.const (.int .i64 1)) ti, type := ti, pos := "iter.go:28", after := #[{ on := 0, ground := .data }], guard := none },
        { dst := some 3, op := .assign (.tmp 10), type := ti, pos := "iter.go:28", after := #[{ on := 1, ground := .data }, { on := 0, ground := .phase }, { on := 1, ground := .phase }], guard := none }] false)))))

/-- A function is the iterator. -/
def BackOk (P : Program) (q : TypeId × TypeId) (f : FuncId) : Prop := ∃ (ti tb ty tz : TypeId) (fn : Func), P.funcs[f]? = some fn ∧ fn.body = some (backCode ti tb ty tz q.1 q.2) ∧ fn.ntmps = 19 ∧ fn.results = #[] ∧ (fn.name == "runtime.NumGoroutine") = false
/-- A function is reckoned by a rule of its own. -/
def SumOk (P : Program) (G : Env) (f : FuncId) (sm : List AV → St → Option (AV × St)) : Prop := ∀ args st v st', sm args st = some (v, st') → Fresh st → WFL st.h.get args →
  (∃ fn, P.funcs[f]? = some fn ∧ fn.body.isSome = true ∧ (fn.name == "runtime.NumGoroutine") = false) ∧
  ∀ w0 p w, HR w0 p st.h.get w → GOK p G → Ab st st' ∧ Calls P f (concL p args).toArray w (CPost w0 p w st' v)
structure EnvOk (P : Program) (G : Env) : Prop where
  back : ∀ f q, G.b f = some q → BackOk P q f
  sums : ∀ f sm, G.s f = some sm → SumOk P G f sm

/-- What is known of temporaries. -/
def KnV (K : List (Nat × Value)) (a : Act) : Prop := ∀ t v, K.lookup t = some v → a.tmps.getD t undef = v
theorem put_getD {a : Act} {d : Nat} {v : Value} (hd : d < a.tmps.size) (t : Nat) : (a.put (some d) v).tmps.getD t undef = if t = d then v else a.tmps.getD t undef := by
  by_cases h : t = d
  · subst h
    rw [if_pos rfl]
    simp [Act.put, hd]
  · rw [if_neg h]
    simp [Act.put, Array.getElem?_setIfInBounds_ne (Ne.symm h)]
theorem KnV.put {K : List (Nat × Value)} {a : Act} {d : Nat} {v : Value} (hK : KnV K a) (hd : d < a.tmps.size) : KnV ((d, v) :: K) (a.put (some d) v) := by
  intro t u h
  rw [put_getD hd]
  by_cases ht : t = d
  · subst ht
    rw [if_pos rfl]
    rw [List.lookup_cons, beq_self_eq_true] at h
    injection h
  · rw [if_neg ht]
    rw [List.lookup_cons, beq_false_of_ne ht] at h
    exact hK t u h
theorem KnV.nil {a : Act} : KnV [] a := fun t v h => (by cases h)
theorem KnV.cons {K : List (Nat × Value)} {a : Act} {d : Nat} {v : Value} (h : a.tmps.getD d undef = v) (hK : KnV K a) : KnV ((d, v) :: K) a := by
  intro t u hl
  by_cases ht : t = d
  · subst ht
    rw [List.lookup_cons, beq_self_eq_true] at hl
    injection hl with hl
    rw [← hl]; exact h
  · rw [List.lookup_cons, beq_false_of_ne ht] at hl
    exact hK t u hl
theorem vstep {r : Option Nat} {P : Program} {K : List (Nat × Value)} {a : Act} {w : World} {d N : Nat} {v : Value} {o : Oper} {ops : Array Oper} {rest : List Oper} {Q : Exit → Act → World → Prop} {ds : List Deferred}
    (hK : KnV K a) (hs : a.tmps.size = N) (hde : a.defers = ds) (hg : o.guard = none) (hd : o.dst = some d) (hdN : d < N) (hrun : (execOp a.eval o).run P w = .ok (.value v) w)
    (hn : ∀ a', a'.tmps.size = N → a'.defers = ds → KnV ((d, v) :: K) a' → wpListIn (FR r) 0 P ops Q rest a' w) : wpListIn (FR r) 0 P ops Q (o :: rest) a w := by
  refine wpListIn_plain hg fun k hk => wpIn_val hrun ?_
  rw [hd]
  exact hk _ _ (hn _ (by simp [Act.put, hs]) (by simpa [Act.put] using hde) (hK.put (by rw [hs]; exact hdN)))

/-- A loop's record and the block for calls that are put off lie there, in no class, beyond what lay there. -/
structure Book (s : Nat) (p : Pls) (W : World) (l D : Nat) (r : Loop) : Prop where
  hl : W.heap[l]? = some (.loop r)
  hD : W.heap[D]? = some (.deferred (some []))
  ul : ∀ c m x, p c m = some x → x.b ≠ l
  uD : ∀ c m x, p c m = some x → x.b ≠ D
  ne : l ≠ D
  gl : s ≤ l
  gD : s ≤ D
theorem Book.step {w0 : World} {s : Nat} {p p' : Pls} {h' : Hp} {W W' : World} {l D : Nat} {r : Loop} (B : Book s p W l D r) (hs : Step w0 p W p' h' W') : Book s p' W' l D r := by
  obtain ⟨h1, h2⟩ := hs.unplaced (lt_of_heap B.hl) B.ul
  obtain ⟨h3, h4⟩ := hs.unplaced (lt_of_heap B.hD) B.uD
  exact ⟨by rw [h1]; exact B.hl, by rw [h3]; exact B.hD, h2, h4, B.ne, B.gl, B.gD⟩
theorem size_putObj (w : World) (l : Nat) (o : Obj) : (w.putObj l o).heap.size = w.heap.size := by simp [World.putObj]
theorem keep_putObj (w : World) {l b : Nat} (o : Obj) (h : b ≠ l) : (w.putObj l o).heap[b]? = w.heap[b]? := World.putObj_heap_other (h := h)
theorem HR.putObj {w0 : World} {p : Pls} {h : Hp} {w : World} (H : HR w0 p h w) {l : Nat} (o : Obj) (hl : w0.heap.size ≤ l) (hu : ∀ c m x, p c m = some x → x.b ≠ l) : HR w0 p h (w.putObj l o) := by
  refine ⟨H.os, H.tape, H.output, by rw [size_putObj]; exact H.size, fun b hb => ?_, H.dom, fun c m x hx => by rw [size_putObj]; exact H.lt c m x hx, H.apart, fun c C hC => ?_⟩
  · rw [keep_putObj w o (by omega)]; exact H.old b hb
  · exact (H.cls c C hC).keep H.cov (fun _ _ _ hx => hx) (Grow.refl h) (fun _ _ hx => hx) fun m x hx => keep_putObj w o (hu c m x hx)
/-- A block in no class that has come since is turned. -/
theorem Step.turn {w0 : World} {p p' : Pls} {h h' : Hp} {w W : World} (H : HR w0 p h w) (S : Step w0 p w p' h' W) {l : Nat} (o : Obj) (hl : w.heap.size ≤ l) (hu : ∀ c m x, p' c m = some x → x.b ≠ l) : Step w0 p w p' h' (W.putObj l o) :=
  ⟨S.le, S.hr.putObj o (Nat.le_trans H.size hl) hu, ⟨by rw [size_putObj]; exact S.fr.size, fun b hb hn => by rw [keep_putObj W o (by omega)]; exact S.fr.keep b hb hn⟩, S.new⟩
theorem Step.waste {w0 : World} {p p' : Pls} {h' : Hp} {w W : World} (S : Step w0 p w p' h' W) (o : Obj) : Step w0 p w p' h' (W.alloc o) :=
  ⟨S.le, S.hr.waste o, ⟨Nat.le_trans S.fr.size (by simp), fun b hb hn => by rw [alloc_keep W o (Nat.lt_of_lt_of_le hb S.fr.size)]; exact S.fr.keep b hb hn⟩, S.new⟩
theorem DOk.turn {s0 : Nat} {p : Pls} {w : World} {ds : List Deferred} (h : DOk s0 p w ds) {l : Nat} (o : Obj) (hl : l < s0) : DOk s0 p (w.putObj l o) ds :=
  ⟨fun d hd => by
    obtain ⟨D, h1, h2, h3, h4⟩ := h.all d hd
    exact ⟨D, h1, by rw [keep_putObj w o (by omega)]; exact h2, h3, h4⟩, h.nodup, by rw [size_putObj]; exact h.le⟩
theorem Book.put {s : Nat} {p : Pls} {W : World} {l D : Nat} {r : Loop} (B : Book s p W l D r) (r' : Loop) : Book s p (W.putObj l (.loop r')) l D r' :=
  ⟨World.putObj_heap_same (lt_of_heap B.hl), (World.putObj_heap_other (Ne.symm B.ne)).trans B.hD, B.ul, B.uD, B.ne, B.gl, B.gD⟩

section
variable {P : Program} {G : Env} {N : Nat} {ts te : TypeId} {cap : AV} {ps : Array Tmp} {as bd : Code} {fa fb : Tr AV → St → Option (Ex × Tr AV × St)} {T : Tr AV} {a : Act} {ds : List Deferred}

/-- A round's temporaries. -/
theorem back1_eq {i v : AV} {k : Tr AV → Option (Ex × Tr AV × St)} {x : Ex × Tr AV × St} (h : back1 N ps.toList i v T k = some x) : ∃ pa pb, ps = #[pa, pb] ∧ pa < N ∧ pb < N ∧ k ((T.set pa i).set pb v) = some x := by
  unfold back1 at h
  split at h
  · rename_i pa pb hps
    rcases putF_eq h with ⟨h1, _⟩ | ⟨d, h1, hd, h⟩
    · cases h1
    · injection h1 with h1
      subst h1
      rcases putF_eq h with ⟨h1, _⟩ | ⟨d, h1, hd', h⟩
      · cases h1
      · injection h1 with h1
        subst h1
        exact ⟨_, _, Array.ext' hps, hd, hd', h⟩
  · cases h
theorem TR.round {p : Pls} {h : Hp} (hT : TR p h T a N ds) {i v : AV} (hi : WF h i) (hv : WF h v) {pa pb : Nat} (ha : pa < N) (hb : pb < N) :
    TR p h ((T.set pa i).set pb v) { tmps := (#[pa, pb].zip #[conc p i, conc p v]).foldl (fun t (q, v) => t.setIfInBounds q v) a.tmps, defers := [] } N [] := by
  have h0 : TR p h T { a with defers := [] } N [] := ⟨hT.size, hT.get, rfl⟩
  have e : (#[pa, pb].zip #[conc p i, conc p v]).foldl (fun t (q, v) => t.setIfInBounds q v) a.tmps = (a.tmps.setIfInBounds pa (conc p i)).setIfInBounds pb (conc p v) := by simp
  rw [e]
  exact (h0.put hi ha).put hv hb
/-- One round more. -/
theorem backF_succ {n : Nat} {st st' : St} {x : Ex} {T' : Tr AV} (h : backF P N ts te cap ps.toList fa fb T (n + 1) st = some (x, T', st')) :
    ∃ s q v pa pb T2 st2 e T3 st3, loadA P ts cap st.h.get = some s ∧ indexAddrA P ts s (.int .i64 (n : Nat)) = some q ∧ loadA P te q st.h.get = some v ∧ ps = #[pa, pb] ∧ pa < N ∧ pb < N ∧
      fa ((T.set pa (.int .i64 (n : Nat))).set pb v) st = some (.nor, T2, st2) ∧ fb T2 st2 = some (e, T3, st3) ∧
      ((e = .nor ∧ backF P N ts te cap ps.toList fa fb T n st3 = some (x, T', st')) ∨ (e ≠ .nor ∧ x = e ∧ T' = T ∧ st' = st3)) := by
  have h : (ob (loadA P ts cap st.h.get) fun s => ob (indexAddrA P ts s (.int .i64 (Int.ofNat n))) fun q => ob (loadA P te q st.h.get) fun v =>
    back1 N ps.toList (.int .i64 (Int.ofNat n)) v T fun T1 => ob (fa T1 st) fun r => Ex.rec (ob (fb r.2.1 r.2.2) fun q => Ex.rec (tl (backF P N ts te cap ps.toList fa fb T n q.2.2)) (fun id => some (.exit id, T, q.2.2)) (some (.ret, T, q.2.2)) q.1) (fun _ => none) none r.1) = some (x, T', st') := h
  replace h := ob_eq h
  obtain ⟨s, hs, h⟩ := h
  replace h := ob_eq h
  obtain ⟨q, hq, h⟩ := h
  replace h := ob_eq h
  obtain ⟨v, hv, h⟩ := h
  obtain ⟨pa, pb, hps, ha, hb, h⟩ := back1_eq h
  replace h := ob_eq h
  obtain ⟨⟨e1, T2, st2⟩, hfa, h⟩ := h
  cases e1 with
  | exit id => cases h
  | ret => cases h
  | nor =>
    replace h := ob_eq h
    obtain ⟨⟨e, T3, st3⟩, hfb, h⟩ := h
    refine ⟨s, q, v, pa, pb, T2, st2, e, T3, st3, hs, hq, hv, hps, ha, hb, hfa, hfb, ?_⟩
    cases e with
    | nor => exact .inl ⟨rfl, h⟩
    | exit id =>
      injection h with h
      simp only [Prod.mk.injEq] at h
      obtain ⟨rfl, rfl, rfl⟩ := h
      exact .inr ⟨(by intro e; cases e), rfl, rfl, rfl⟩
    | ret =>
      injection h with h
      simp only [Prod.mk.injEq] at h
      obtain ⟨rfl, rfl, rfl⟩ := h
      exact .inr ⟨(by intro e; cases e), rfl, rfl, rfl⟩

theorem back_real {ra rb : Option Nat} (hA : Does P G N fa (fun Q a w => as.wpIn (FR ra) 0 P Q a w)) (hB : Does P G N fb (fun Q a w => bd.wpIn (FR rb) 0 P Q a w)) {x : Ex} {T' : Tr AV} {st' : St} :
    ∀ (n : Nat) (st : St), backF P N ts te cap ps.toList fa fb T n st = some (x, T', st') → Fresh st → ∀ (w0 : World) (p : Pls) (w : World), HR w0 p st.h.get w → GOK p G → TR p st.h.get T a N ds →
    Ab st st' ∧ T' = T ∧ ∃ p' w', Step w0 p w p' st'.h.get w' := by
  intro n
  induction n with
  | zero =>
    intro st h hf w0 p w H hG hT
    injection h with h
    simp only [Prod.mk.injEq] at h
    obtain ⟨rfl, rfl, rfl⟩ := h
    exact ⟨Ab.refl _, rfl, p, w, Step.refl H⟩
  | succ n ih =>
    intro st h hf w0 p w H hG hT
    obtain ⟨s, q, v, pa, pb, T2, st2, e, T3, st3, hs, hq, hv, hps, ha, hb, hfa, hfb, hor⟩ := backF_succ h
    obtain ⟨_, hvw⟩ := loadA_ok hv H
    have hTr := hT.round (i := .int .i64 (n : Nat)) trivial hvw ha hb
    obtain ⟨k1, ⟨p1, w1, a1, d1, ks, kt, kd⟩, _⟩ := hA _ _ _ _ _ hfa hf w0 w.heap.size p w _ [] H hG hTr DOk.nil
    obtain ⟨m1, ⟨p2, w2, a2, d2, ms, mt, md⟩, _⟩ := hB _ _ _ _ _ hfb (k1.fresh hf) w0 w.heap.size p1 w1 _ d1 ks.hr (hG.le ks.le) kt kd
    have hstep := ks.trans ms
    rcases hor with ⟨rfl, h⟩ | ⟨_, rfl, rfl, rfl⟩
    · obtain ⟨r1, r2, p3, w3, r3⟩ := ih st3 h (m1.fresh (k1.fresh hf)) w0 p2 w2 hstep.hr (hG.le hstep.le) (hT.step H hstep (k1.grow.trans m1.grow))
      exact ⟨(k1.trans m1).trans r1, r2, p3, w3, hstep.trans r3⟩
    · exact ⟨k1.trans m1, rfl, p2, w2, hstep⟩

/-- What a round leaves in the loop's record. -/
def recOf (rec : LoopState → Option Code → Loop) : Ex → Loop
  | .nor => rec .ready none
  | .exit i => rec .done (some (.exit i))
  | .ret => rec .done (some .ret)

theorem run_call_yield {ρ : Operand → Value} {f : Operand} {x y : Operand} {l : Nat} (hf : ρ f = .func (.yield l) #[] #[]) (d : Option Tmp) (tys : Array TypeId) (t : TypeId) (pos : String) (af : Array Edge) (g : Option (Nat × Bool)) (w : World) :
    (execOp ρ { dst := d, op := .call { callee := .value f, args := #[x, y], argTypes := tys }, type := t, pos := pos, after := af, guard := g }).run P w = (Instr.yield l #[ρ x, ρ y]).run P w := by
  simp only [execOp, resolve, hf, Deferred.ofValue, Sem.run_bind, Sem.run_pure, Result.andThen_ok, invoke]
  simp

theorem run_b2 {op : BinOp} {t yt ty : TypeId} {ρ : Operand → Value} {X Y : Operand} {k k' : IntKind} {m n : Int} {r : AV} (h : b2 P op t (.int k m) (.int k' n) = some r) (hX : ρ X = .int k m) (hY : ρ Y = .int k' n) {w0 : World} {p : Pls} {hp : Hp} {w : World} (H : HR w0 p hp w)
    (d : Option Tmp) (pos : String) (af : Array Edge) (g : Option (Nat × Bool)) :
    (execOp ρ { dst := d, op := .binOp op t X Y yt, type := ty, pos := pos, after := af, guard := g }).run P w = .ok (.value (conc p r)) w := by
  obtain ⟨k1, k2⟩ := b2_ok h H.cov (hp := hp) (p := p) trivial trivial X Y w
  simp only [execOp]
  rw [hX, hY]
  simp only [Sem.run_bind, conc] at k1
  simp only [Sem.run_bind, k1, Result.andThen_ok, Sem.run_pure]
theorem i64_wrap {n : Int} (h1 : -9223372036854775808 ≤ n) (h2 : n ≤ 9223372036854775807) : IntKind.i64.wrap n = n := IntWalk.i64_in n (by omega)
theorem run_sub1 {t yt ty : TypeId} {ρ : Operand → Value} {X : Operand} {n : Int} (hX : ρ X = .int .i64 n) (h1 : -9223372036854775807 ≤ n) (h2 : n ≤ 9223372036854775807) {w0 : World} {p : Pls} {hp : Hp} {w : World} (H : HR w0 p hp w)
    (hc : ρ (.const (.int .i64 1)) = .int .i64 1) (d : Option Tmp) (pos : String) (af : Array Edge) (g : Option (Nat × Bool)) :
    (execOp ρ { dst := d, op := .binOp .sub t X (.const (.int .i64 1)) yt, type := ty, pos := pos, after := af, guard := g }).run P w = .ok (.value (.int .i64 (n - 1))) w := by
  have h : b2 P .sub t (.int .i64 n) (.int .i64 1) = some (.int .i64 (n - 1)) := by
    show sInt (wrapF .i64 (n - 1)) (fun z => some (AV.int .i64 z)) = _
    rw [sInt_eq, wrapF_eq, i64_wrap (by omega) (by omega)]
  exact run_b2 h hX hc H d pos af g
theorem run_geq0 {t yt ty : TypeId} {ρ : Operand → Value} {X : Operand} {n : Int} (hX : ρ X = .int .i64 n) {w0 : World} {p : Pls} {hp : Hp} {w : World} (H : HR w0 p hp w)
    (hc : ρ (.const (.int .i64 0)) = .int .i64 0) (d : Option Tmp) (pos : String) (af : Array Edge) (g : Option (Nat × Bool)) :
    (execOp ρ { dst := d, op := .binOp .geq t X (.const (.int .i64 0)) yt, type := ty, pos := pos, after := af, guard := g }).run P w = .ok (.value (.bool (!decide (n < 0)))) w := by
  have h : b2 P .geq t (.int .i64 n) (.int .i64 0) = some (.bool (!decide (n < 0))) := by
    show some (AV.bool (!ltI n 0)) = _
    rw [ltI_eq]
  exact run_b2 h hX hc H d pos af g
/-- The iterator's loop, a round of it. -/
def backBody (ti tb ty tz ts te : TypeId) : Code := match backCode ti tb ty tz ts te with
  | .seq _ (.block _ (.loop c)) => c
  | _ => .skip

/-- The iterator's rounds. -/
theorem back_rounds (hA : ∀ l, Does P G N fa (fun Q a w => as.wpIn (FR (some l)) 0 P Q a w)) (hB : ∀ l, Does P G N fb (fun Q a w => bd.wpIn (FR (some l)) 0 P Q a w)) {x : Ex} {T' : Tr AV} {st' st0 : St} {w0 : World} {p : Pls} {w : World} {l D : Nat} {fid : FuncId} {ti tb ty tz : TypeId}
    (H0 : HR w0 p st0.h.get w) {fn : Func} (hres : fn.results = #[]) {R : Ending → World → Prop} {rec : LoopState → Option Code → Loop}
    (hrec : rec = fun st pe => { state := st, pending := pe, fn := fid, tmps := a.tmps, params := ps, assign := as, body := bd, defers := D })
    (hR : ∀ p' W' v, Step w0 p w p' st'.h.get W' → TR p' st'.h.get T' a N ds → Book w.heap.size p' W' l D (recOf rec x) → R (.returned v) W') :
    ∀ (n : Nat) (st : St), backF P N ts te cap ps.toList fa fb T n st = some (x, T', st') → Fresh st → (n : Int) ≤ 9223372036854775807 → ∀ (pW : Pls) (W : World) (ac : Act), Step w0 p w pW st.h.get W → GOK pW G → TR pW st.h.get T a N ds → WF st.h.get cap →
      Book w.heap.size pW W l D (rec .ready none) → KnV [(0, .func (.yield l) #[] #[]), (1, conc pW cap), (3, .int .i64 ((n : Int) - 1))] ac → ac.tmps.size = 19 → ac.defers = [] →
    Code.roundsIn (FR none) 0 P (backBody ti tb ty tz ts te) (Exit.inBlock 0 (bodyPost P fn R)) (n + 1) ac W := by
  intro n
  induction n with
  | zero =>
    intro st h hf hn pW W ac hS hG hT hcw hBk hK hsz hde
    injection h with h
    simp only [Prod.mk.injEq] at h
    obtain ⟨rfl, rfl, rfl⟩ := h
    rw [roundsIn_succ]
    unfold backBody
    simp only [backCode]
    refine wpIn_seq (wpIn_seq (wpIn_region_lit ?_))
    refine vstep (v := .int .i64 (-1)) hK hsz hde rfl rfl (by decide) ?_ fun a1 s1 d1 K1 => ?_
    · simp only [execOp, Sem.run_pure]
      rw [show ac.eval (.tmp 3) = _ from hK 3 _ rfl]
      rfl
    refine vstep (v := .bool false) K1 s1 d1 rfl rfl (by decide) (run_geq0 (n := -1) (K1 7 _ rfl) hS.hr rfl _ _ _ _) fun a2 s2 d2 K2 => ?_
    refine wpListIn_nil ?_
    refine wpIn_cond_false (K2 8 _ rfl) (wpIn_exit ?_)
    exact ⟨d2, _, results_none hres _ _ _, hR _ _ _ hS hT hBk⟩
  | succ n ih =>
    intro st h hf hn pW W ac hS hG hT hcw hBk hK hsz hde
    have hHW := hS.hr
    obtain ⟨s, q, v, pa, pb, T2, st2, e, T3, st3, hs, hq, hv, hps, hpa, hpb, hfa, hfb, hor⟩ := backF_succ h
    obtain ⟨l1, l2⟩ := loadA_ok (P := P) hs hHW
    obtain ⟨m1, m2⟩ := indexAddrA_ok (P := P) hq hHW.cov l2 W
    obtain ⟨v1, v2⟩ := loadA_ok (P := P) hv hHW
    have hn1 : ((n + 1 : Nat) : Int) - 1 = n := by omega
    rw [hn1] at hK
    rw [roundsIn_succ]
    unfold backBody
    simp only [backCode]
    refine wpIn_seq (wpIn_seq (wpIn_region_lit ?_))
    refine vstep (v := .int .i64 n) hK hsz hde rfl rfl (by decide) ?_ fun a1 s1 d1 K1 => ?_
    · simp only [execOp, Sem.run_pure]
      rw [show ac.eval (.tmp 3) = _ from hK 3 _ rfl]
    refine vstep (v := .bool true) K1 s1 d1 rfl rfl (by decide) ?_ fun a2 s2 d2 K2 => ?_
    · have := run_geq0 (P := P) (n := n) (ρ := a1.eval) (X := .tmp 7) (t := ti) (yt := ti) (ty := tb) (K1 7 _ rfl) hHW rfl (some 8) "iter.go:28" #[{ on := 0, ground := .data }] none
      rw [this, decide_eq_false (by omega)]
      rfl
    refine wpListIn_nil ?_
    refine wpIn_cond_true (K2 8 _ rfl) (wpIn_skip ?_)
    refine wpIn_seq (wpIn_block (wpIn_seq (wpIn_region_lit ?_)))
    refine vstep (v := .func (.yield l) #[] #[]) K2 s2 d2 rfl rfl (by decide) ?_ fun a3 s3 d3 K3 => ?_
    · simp only [execOp, Sem.run_pure]
      rw [show a2.eval (.tmp 0) = _ from K2 0 _ rfl]
    refine vstep (v := .int .i64 n) K3 s3 d3 rfl rfl (by decide) ?_ fun a4 s4 d4 K4 => ?_
    · simp only [execOp, Sem.run_pure]
      rw [show a3.eval (.tmp 3) = _ from K3 3 _ rfl]
    refine vstep (v := conc pW s) K4 s4 d4 rfl rfl (by decide) ?_ fun a5 s5 d5 K5 => ?_
    · simp only [execOp]
      rw [show a4.eval (.tmp 1) = _ from K4 1 _ rfl]
      simp only [Sem.run_bind, l1, Result.andThen_ok, Sem.run_pure]
    refine vstep (v := .int .i64 n) K5 s5 d5 rfl rfl (by decide) ?_ fun a6 s6 d6 K6 => ?_
    · simp only [execOp, Sem.run_pure]
      rw [show a5.eval (.tmp 3) = _ from K5 3 _ rfl]
    refine vstep (v := conc pW q) K6 s6 d6 rfl rfl (by decide) ?_ fun a7 s7 d7 K7 => ?_
    · simp only [execOp]
      rw [show a6.eval (.tmp 13) = _ from K6 13 _ rfl, show a6.eval (.tmp 14) = _ from K6 14 _ rfl]
      have m1 : (Instr.indexAt ts (conc pW s) (.int .i64 n)).run P W = .ok (conc pW q) W := m1
      simp only [Sem.run_bind, m1, Result.andThen_ok, Sem.run_pure]
    refine vstep (v := conc pW v) K7 s7 d7 rfl rfl (by decide) ?_ fun a8 s8 d8 K8 => ?_
    · simp only [execOp]
      rw [show a7.eval (.tmp 15) = _ from K7 15 _ rfl]
      simp only [Sem.run_bind, v1, Result.andThen_ok, Sem.run_pure]
    -- the round
    subst hps
    refine wpListIn_plain rfl fun K hKK => ⟨fun _ _ => trivial, ?_⟩
    have hnd : ∀ c, (Op.call { callee := .value (.tmp 11), args := #[.tmp 12, .tmp 16], argTypes := #[ti, te] }) ≠ .defer c := fun c h => nomatch h
    rw [Oper.semAt_eq _ _ _ hnd, run_call_yield (K8 11 _ rfl), show a8.eval (.tmp 12) = _ from K8 12 _ rfl, show a8.eval (.tmp 16) = _ from K8 16 _ rfl]
    have hrl : (rec .ready none).params = #[pa, pb] := by rw [hrec]
    rw [run_yield hBk.hl (by rw [hrl]; rfl)]
    refine ⟨fun h => (by cases h), ?_⟩
    have hTr := hT.round (i := .int .i64 (n : Nat)) trivial v2 hpa hpb
    have e1 : (rec .ready none).tmps = a.tmps := by rw [hrec]
    have e2 : (rec .ready none).assign = as := by rw [hrec]
    have e3 : (rec .ready none).body = bd := by rw [hrec]
    rw [hrl, e1, e2, e3]
    refine roundIn_of_wpIn trivial ?_
    refine (hA l _ _ _ _ _ hfa hf w0 W.heap.size pW W _ [] hHW hG hTr DOk.nil).2.2 _ fun p1 w1 b1 ds1 hs1 ht1 hd1 => ?_
    have hab1 := (hA l _ _ _ _ _ hfa hf w0 W.heap.size pW W _ [] hHW hG hTr DOk.nil).1
    have B1 := hBk.step hs1
    have S1 := hS.trans hs1
    refine ⟨_, run_beginRound B1.hl (by rw [hrec]), ?_⟩
    have B2 := B1.put { rec .ready none with state := .busy }
    have S2 := S1.turn H0 (.loop { rec .ready none with state := .busy }) B1.gl B1.ul
    have hd2 : DOk W.heap.size p1 (w1.putObj l (.loop { rec .ready none with state := .busy })) ds1 := hd1.turn _ (lt_of_heap hBk.hl)
    refine (hB l _ _ _ _ _ hfb (hab1.fresh hf) w0 W.heap.size p1 _ b1 ds1 S2.hr (hG.le hs1.le) ht1 hd2).2.2 _ fun p2 w2 b2 ds2 hs2 ht2 hd2' => ?_
    have hab2 := (hB l _ _ _ _ _ hfb (hab1.fresh hf) w0 W.heap.size p1 _ b1 ds1 S2.hr (hG.le hs1.le) ht1 hd2).1
    have B3 := B2.step hs2
    have S3 := S2.trans hs2
    have hle : Pls.le pW p2 := fun c m y hy => hs2.le c m y (hs1.le c m y hy)
    have hgr := hab1.grow.trans hab2.grow
    have hT3 : TR p2 st3.h.get T a N ds := ⟨hT.size, fun t => by
      obtain ⟨t1, t2⟩ := hT.get t
      exact ⟨by rw [conc_le hHW.cov hle _ t2]; exact t1, WF.grow hgr _ t2⟩, hT.defers⟩
    have hcap : conc p2 cap = conc pW cap := conc_le hHW.cov hle _ hcw
    have hcw3 : WF st3.h.get cap := WF.grow hgr _ hcw
    -- behind the round
    have after : ∀ (jump : Option Code) (w3 : World), w3 = w2.putObj l (.loop (rec (if jump.isNone then .ready else .done) jump)) →
        (∀ (b3 : Act), b3.tmps.size = 19 → b3.defers = [] → KnV [(0, .func (.yield l) #[] #[]), (1, conc pW cap), (3, .int .i64 n), (18, .bool (!jump.isNone))] b3 →
          (Code.cond (.tmp 18) Code.ret Code.skip).wpIn (FR none) 0 P (Exit.inBlock 1 (Exit.then (fun b4 w4 => (Code.region 2 #[
            { dst := some 9, op := .move (.tmp 3), type := ti, pos := "iter.go:28", after := #[], guard := none },
            { dst := some 10, op := .binOp .sub ti (.tmp 9) (.const (.int .i64 1)) ti, type := ti, pos := "iter.go:28", after := #[{ on := 0, ground := .data }], guard := none },
            { dst := some 3, op := .assign (.tmp 10), type := ti, pos := "iter.go:28", after := #[{ on := 1, ground := .data }, { on := 0, ground := .phase }, { on := 1, ground := .phase }], guard := none }] false).wpIn (FR none) 0 P (Exit.then (Code.roundsIn (FR none) 0 P (backBody ti tb ty tz ts te) (Exit.inBlock 0 (bodyPost P fn R)) (n + 1)) (Exit.inBlock 0 (bodyPost P fn R))) b4 w4)
            (Exit.then (Code.roundsIn (FR none) 0 P (backBody ti tb ty tz ts te) (Exit.inBlock 0 (bodyPost P fn R)) (n + 1)) (Exit.inBlock 0 (bodyPost P fn R))))) b3 w3) →
        ∃ v w', (Instr.endRound l jump).run P w2 = .ok v w' ∧ K (a8.put (some 17) v) w' := by
      intro jump w3 hw3 hgo
      have hend := run_endRound (P := P) jump B3.hl
      have hrr : ({ ({ rec .ready none with state := .busy } : Loop) with state := if jump.isNone then .ready else .done, pending := jump } : Loop) = rec (if jump.isNone then .ready else .done) jump := by rw [hrec]
      rw [hrr, ← hw3] at hend
      refine ⟨_, _, hend, hKK _ _ ?_⟩
      have K9 : KnV _ (a8.put (some 17) (.bool jump.isNone)) := K8.put (by rw [s8]; decide)
      have s9 : (a8.put (some 17) (.bool jump.isNone)).tmps.size = 19 := by simp [Act.put, s8]
      refine vstep (v := .bool (!jump.isNone)) K9 s9 (by simpa [Act.put] using d8) rfl rfl (by decide) ?_ fun a10 s10 d10 K10 => ?_
      · simp only [execOp]
        rw [show (a8.put (some 17) (.bool jump.isNone)).eval (.tmp 17) = _ from K9 17 _ rfl]
        obtain ⟨u1, _⟩ := un1_ok (P := P) (op := .not) (x := .bool jump.isNone) (v := .bool (!jump.isNone)) rfl pW st.h.get w3
        have u1 : (Op.unary .not (.bool jump.isNone)).run P w3 = .ok (.bool (!jump.isNone)) w3 := u1
        simp only [Sem.run_bind, u1, Result.andThen_ok, Sem.run_pure]
      · refine wpListIn_nil ?_
        exact hgo a10 s10 d10 (.cons (K10 0 _ rfl) (.cons (K10 1 _ rfl) (.cons (K10 3 _ rfl) (.cons (K10 18 _ rfl) .nil))))
    have B4 : ∀ r', Book w.heap.size p2 (w2.putObj l (.loop r')) l D r' := fun r' => B3.put r'
    have S4 : ∀ o, Step w0 p w p2 st3.h.get (w2.putObj l o) := fun o => S3.turn H0 o B3.gl B3.ul
    rcases hor with ⟨rfl, h⟩ | ⟨hne, rfl, rfl, rfl⟩
    · refine after none _ rfl fun b3 s3' d3' K3' => ?_
      refine wpIn_cond_false (K3' 18 _ rfl) (wpIn_skip ?_)
      refine wpIn_region_lit ?_
      refine vstep (v := .int .i64 n) K3' s3' d3' rfl rfl (by decide) ?_ fun c1 t1 e1' L1 => ?_
      · simp only [execOp, Sem.run_pure]
        rw [show b3.eval (.tmp 3) = _ from K3' 3 _ rfl]
      refine vstep (v := .int .i64 ((n : Int) - 1)) L1 t1 e1' rfl rfl (by decide) (run_sub1 (L1 9 _ rfl) (by omega) (by omega) (S4 _).hr rfl _ _ _ _) fun c2 t2 e2' L2 => ?_
      refine vstep (v := .int .i64 ((n : Int) - 1)) L2 t2 e2' rfl rfl (by decide) ?_ fun c3 t3 e3' L3 => ?_
      · simp only [execOp, Sem.run_pure]
        rw [show c2.eval (.tmp 10) = _ from L2 10 _ rfl]
      refine wpListIn_nil ?_
      refine ih st3 h (hab2.fresh (hab1.fresh hf)) (by omega) p2 _ c3 (S4 _) (hG.le hle) hT3 hcw3 (B4 _) (.cons (L3 0 _ rfl) (.cons (by rw [hcap]; exact L3 1 _ rfl) (.cons (L3 3 _ rfl) .nil))) t3 e3'
    · have fin : ∀ (c : Code), recOf rec x = rec .done (some c) → ∃ v w', (Instr.endRound l (some c)).run P w2 = .ok v w' ∧ K (a8.put (some 17) v) w' := fun c hc => by
        refine after (some c) _ rfl fun b3 s3' d3' K3' => ?_
        refine wpIn_cond_true (K3' 18 _ rfl) (wpIn_ret ?_)
        exact ⟨d3', _, results_none hres _ _ _, hR _ _ _ (S4 _) hT3 (by rw [hc]; exact B4 _)⟩
      cases x with
      | nor => exact absurd rfl hne
      | exit id => exact fin _ rfl
      | ret => exact fin _ rfl

theorem lenA_int {ts : List TypeId} {x : AV} {k : IntKind} {n : Int} (h : lenA P ts x = some (.int k n)) : k = .i64 := by
  unfold lenA at h
  split at h
  · split at h
    · split at h
      · rw [sNat_eq] at h; injection h with h; injection h with h1 h2; exact h1.symm
      · cases h
    · split at h
      · injection h with h; injection h with h1 h2; exact h1.symm
      · cases h
    · split at h
      · injection h with h; injection h with h1 h2; exact h1.symm
      · cases h
    · split at h
      · injection h with h; injection h with h1 h2; exact h1.symm
      · cases h
    · split at h
      · injection h with h; injection h with h1 h2; exact h1.symm
      · cases h
    · cases h
  · cases h
/-- The iterator, called. -/
theorem back_calls (hA : ∀ l, Does P G N fa (fun Q a w => as.wpIn (FR (some l)) 0 P Q a w)) (hB : ∀ l, Does P G N fb (fun Q a w => bd.wpIn (FR (some l)) 0 P Q a w)) {x : Ex} {T' : Tr AV} {st' st : St} {w0 : World} {p : Pls} {w : World} {l D : Nat} {fid gf : FuncId}
    (H0 : HR w0 p st.h.get w) (hbk : BackOk P (ts, te) gf) {R : Ending → World → Prop} {rec : LoopState → Option Code → Loop}
    (hrec : rec = fun st pe => { state := st, pending := pe, fn := fid, tmps := a.tmps, params := ps, assign := as, body := bd, defers := D })
    (hR : ∀ p' W' v, Step w0 p w p' st'.h.get W' → TR p' st'.h.get T' a N ds → Book w.heap.size p' W' l D (recOf rec x) → R (.returned v) W')
    {s : AV} (hs : loadA P ts cap st.h.get = some s) {k : IntKind} {n : Nat} (hl : lenA P [ts] s = some (.int k (n : Int))) (hb : backF P N ts te cap ps.toList fa fb T n st = some (x, T', st')) (hf : Fresh st) (hn : (n : Int) ≤ 9223372036854775807)
    {W : World} (hS : Step w0 p w p st.h.get W) (hG : GOK p G) (hT : TR p st.h.get T a N ds) (hcw : WF st.h.get cap) (hBk : Book w.heap.size p W l D (rec .ready none)) :
    CallsIn (FR none) 0 P gf #[.func (.yield l) #[] #[], conc p cap] W R := by
  obtain ⟨ti, tb, ty, tz, fn, f1, f2, f3, f4, f5⟩ := hbk
  refine callsIn_of_wp f1 f2 trivial ?_
  rw [f3]
  obtain ⟨l1, l2⟩ := loadA_ok (P := P) hs hS.hr
  obtain ⟨m1, _⟩ := lenA_ok (P := P) (ts := #[ts]) (ty := ti) hl hS.hr.cov l2 W
  have hk := lenA_int hl
  subst hk
  have key : ∀ a0 : Act, KnV [(0, .func (.yield l) #[] #[]), (1, conc p cap)] a0 → a0.tmps.size = 19 → a0.defers = [] → (backCode ti tb ty tz ts te).wpIn (FR none) 0 P (bodyPost P fn R) a0 W := by
    intro a0 K0 s0 d0
    unfold backCode
    refine wpIn_seq (wpIn_region_lit ?_)
    refine vstep (v := conc p s) K0 s0 d0 rfl rfl (by decide) ?_ fun a1 s1 d1 K1 => ?_
    · simp only [execOp]
      rw [show a0.eval (.tmp 1) = _ from K0 1 _ rfl]
      simp only [Sem.run_bind, l1, Result.andThen_ok, Sem.run_pure]
    refine vstep (v := .int .i64 n) K1 s1 d1 rfl rfl (by decide) ?_ fun a2 s2 d2 K2 => ?_
    · have m1 : (Builtin.len_ #[ts] ti #[conc p s]).run P W = .ok (.int .i64 n) W := m1
      have e1 : a1.eval (.tmp 4) = conc p s := K1 4 _ rfl
      simp only [execOp, resolve, invoke, List.map_toArray, List.map_cons, List.map_nil, e1, Sem.run_bind, Sem.run_pure, Result.andThen_ok, builtin, m1]
    refine vstep (v := .int .i64 ((n : Int) - 1)) K2 s2 d2 rfl rfl (by decide) (run_sub1 (K2 5 _ rfl) (by omega) (by omega) hS.hr rfl _ _ _ _) fun a3 s3 d3 K3 => ?_
    refine vstep (v := .int .i64 ((n : Int) - 1)) K3 s3 d3 rfl rfl (by decide) ?_ fun a4 s4 d4 K4 => ?_
    · simp only [execOp, Sem.run_pure]
      rw [show a3.eval (.tmp 6) = _ from K3 6 _ rfl]
    refine wpListIn_nil (wpIn_block (wpIn_loop_rounds (n + 1) ?_))
    exact back_rounds hA hB H0 f4 hrec hR n st hb hf hn p W a4 hS hG hT hcw hBk (.cons (K4 0 _ rfl) (.cons (K4 1 _ rfl) (.cons (K4 3 _ rfl) .nil))) s4 d4
  exact key _ (.cons (by simp) (.cons (by simp) .nil)) (by simp) rfl

/-- A range over a row from behind. -/
theorem range_does (hE : EnvOk P G) (hA : ∀ l, Does P G N fa (fun Q a w => as.wpIn (FR (some l)) 0 P Q a w)) (hB : ∀ l, Does P G N fb (fun Q a w => bd.wpIn (FR (some l)) 0 P Q a w)) (g : Operand) (pl : Bool) :
    Does P G N (rangeF P G N g ps.toList pl fa fb) (fun Q a w => (Code.rangeFunc g ps as bd).wpIn (FR none) 0 P Q a w) := by
  intro T T' st st' x h hf w0 s0 p w a ds H hG hT hDs
  obtain ⟨_, h⟩ := need_eq h
  replace h := ob_eq h
  obtain ⟨u, hu, h⟩ := h
  split at h
  · rename_i f first cap
    replace h := ob_eq h
    obtain ⟨⟨ts, te⟩, hq, h⟩ := h
    split at h
    · split at h
      · rename_i cap
        replace h := ob_eq h
        obtain ⟨s, hs, h⟩ := h
        replace h := ob_eq h
        obtain ⟨nv, hl, h⟩ := h
        split at h
        · rename_i k n
          replace h := ob_eq h
          obtain ⟨n, hn, h⟩ := h
          have hn := toN_eq hn
          subst hn
          obtain ⟨hmost, h⟩ := need_eq h
          have hmost := i64most_le hmost
          have hbk := hE.back f _ hq
          obtain ⟨hev, _, hcw, _⟩ := opd_fit H hG hT g _ hu
          obtain ⟨r1, rfl, p9, w9, r2⟩ := back_real (hA 0) (hB 0) n st h hf w0 p w H hG hT
          refine ⟨r1, ⟨p9, w9, a, ds, r2, hT.step H r2 r1.grow, hDs.step r2⟩, fun Q hQ => ?_⟩
          refine wpIn_rangeFunc fun fid _ => ?_
          obtain ⟨rec, hrec⟩ : ∃ rec : LoopState → Option Code → Loop, rec = fun st pe => { state := st, pending := pe, fn := fid, tmps := a.tmps, params := ps, assign := as, body := bd, defers := w.heap.size } := ⟨_, rfl⟩
          obtain ⟨W1, hW1⟩ : ∃ W1, (w.alloc (.deferred (some []))).alloc (.loop (rec .ready none)) = W1 := ⟨_, rfl⟩
          have hL1 : W1.heap[w.heap.size + 1]? = some (.loop (rec .ready none)) := by
            rw [← hW1]; have := World.alloc_heap_new (w.alloc (.deferred (some []))) (.loop (rec .ready none)); rwa [World.size_alloc] at this
          have hK1 : W1.heap[w.heap.size]? = some (.deferred (some [])) := by
            rw [← hW1, alloc_keep _ _ (by simp)]; exact World.alloc_heap_new w _
          have hS1 : Step w0 p w p st.h.get W1 := by rw [← hW1]; exact ((Step.refl H).waste _).waste _
          have hB1 : Book w.heap.size p W1 (w.heap.size + 1) w.heap.size (rec .ready none) :=
            ⟨hL1, hK1, fun c m y hy => by have := H.lt c m y hy; omega, fun c m y hy => by have := H.lt c m y hy; omega, by omega, by omega, Nat.le_refl _⟩
          have hcall := hbk
          obtain ⟨ti, tb, ty, tz, fn, f1, f2, f3, f4, f5⟩ := hcall
          have f2' : fn.body.isNone = false := by rw [f2]; rfl
          have eg : ∀ args W, (callFunc f args).run P W = .ok (.enter f args) W := fun args W => by simp only [callFunc, Sem.run_bind, run_program, Result.andThen_ok, f1, f5, f2', Bool.false_eq_true, if_false, Sem.run_pure]
          have hev : a.eval g = .func (.func f) #[] #[conc p cap] := hev
          refine ⟨w.heap.size + 1, [{ target := .collected w.heap.size, args := #[] }], W1, { target := .fn (.func f) #[conc p cap], args := #[.func (.yield (w.heap.size + 1)) #[] #[]] }, W1, f,
            #[.func (.yield (w.heap.size + 1)) #[] #[]] ++ #[conc p cap], W1, ?_, ?_, fun _ _ => trivial, ?_, fun h => (by cases h), ?_⟩
          · rw [← hW1, hrec]; exact run_enterLoop_outer _ _ _ _ _
          · simp only [resolve, hev]
            simp [go_sem]
          · simp [invoke, go_sem, eg]
          · refine back_calls hA hB H hbk hrec ?_ hs hl h hf (by omega) hS1 hG hT hcw hB1
            intro p' W' v S' TR' B'
            have hst : (recOf rec x).state ≠ .busy := by cases x <;> simp [recOf, hrec]
            refine ⟨_, _, run_endLoop B'.hl hst, ?_⟩
            have S4 := S'.turn H (.loop { recOf rec x with state := .exhausted }) B'.gl B'.ul
            have B4 := B'.put { recOf rec x with state := .exhausted }
            have hfin : Q (exOf x) { a with defers := { target := .collected w.heap.size, args := #[] } :: a.defers } (W'.putObj (w.heap.size + 1) (.loop { recOf rec x with state := .exhausted })) := by
              refine hQ p' _ _ ({ target := .collected w.heap.size, args := #[] } :: ds) S4 ⟨TR'.size, TR'.get, by rw [← hT.defers]⟩ ⟨fun d hd => ?_, ?_, ?_⟩
              · rcases List.mem_cons.1 hd with rfl | hd
                · exact ⟨_, rfl, B4.hD, B4.uD, hDs.le⟩
                · exact (hDs.step S4).all d hd
              · refine List.nodup_cons.2 ⟨fun hm => ?_, hDs.nodup⟩
                obtain ⟨D', e, hh, _⟩ := hDs.all _ hm
                injection e with e1 e2
                injection e1 with e1
                subst e1
                have := lt_of_heap hh
                omega
              · exact (hDs.step S4).le
            cases x with
            | nor => simpa [recOf, hrec, exOf] using hfin
            | exit id =>
              subst hrec
              exact wpIn_exit hfin
            | ret =>
              subst hrec
              exact wpIn_ret hfin
        · cases h
      · cases h
    · cases h
  · cases h
end
end Go.Proofs.Ytmjnbdkjekdkgaa
