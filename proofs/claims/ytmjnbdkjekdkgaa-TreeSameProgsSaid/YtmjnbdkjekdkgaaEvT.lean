/-
  A reckoner for closed calls: what code and calls do.
-/
import Derived.Test.YtmjnbdkjekdkgaaEvS
namespace Go.Proofs.Ytmjnbdkjekdkgaa
open Go
set_option linter.unusedVariables false
set_option linter.unusedSimpArgs false

theorem bif_and {a b : Bool} (h : bif' a b false = true) : a = true ∧ b = true := by cases a <;> simp_all [bif']
/-- What code does whose end leaves things as they lie. -/
theorem does_now {P : Program} {G : Env} {N : Nat} {r : Option Nat} {c : Code} {y : Ex} (hw : ∀ Q a w, Q (exOf y) a w → c.wpIn (FR r) 0 P Q a w) : Does P G N (fun T st => some (y, T, st)) (fun Q a w => c.wpIn (FR r) 0 P Q a w) := by
  intro T T' st st' x h hf w0 s0 p w a ds H hG hT hDs
  injection h with h
  simp only [Prod.mk.injEq] at h
  obtain ⟨rfl, rfl, rfl⟩ := h
  exact ⟨Ab.refl _, ⟨p, w, a, ds, Step.refl H, hT, hDs⟩, fun Q hQ => hw Q a w (hQ p w a ds (Step.refl H) hT hDs)⟩
theorem does_none {P : Program} {G : Env} {N : Nat} {W : (Exit → Act → World → Prop) → Act → World → Prop} : Does P G N (fun _ _ => none) W := by
  intro T T' st st' x h
  cases h
theorem code_does {P : Program} {G : Env} (hDr : DrawOk P G) (hE : EnvOk P G)
    {call : CallF} (hcall : CallOk P G call) (N L : Nat) : ∀ (c : Code) (r : Option Nat), (r.isSome = true → plainC c = true) → Does P G N (codeF P G call N L c) (fun Q a w => c.wpIn (FR r) 0 P Q a w) := by
  intro c
  induction c with
  | skip => intro r hr; exact does_now fun Q a w => wpIn_skip
  | region id ops draw =>
    intro r hr T T' st st' x h hf w0 s0 p w a ds H hG hT hDs
    cases draw with
    | true =>
      have h : (ob (planOf P ops.toList) fun pl => ob (regD P G call N ops.toList pl T st [st]) fun r => some (Ex.nor, r)) = some (x, T', st') := h
      replace h := ob_eq h
      obtain ⟨pl, hpl, h⟩ := h
      replace h := ob_eq h
      obtain ⟨r, hr, h⟩ := h
      injection h with h
      injection h with e1 e2
      subst e1 e2
      obtain ⟨k1, ⟨p1, w1, a1, k2, k2'⟩, k3⟩ := hDr call hcall N ops pl hpl T T' st st' hr hf w0 p w a ds H hG hT
      exact ⟨k1, ⟨p1, w1, a1, ds, k2, k2', hDs.step k2⟩, fun Q hQ => k3 _ id Q fun p' w' a' hs ht => hQ p' w' a' ds hs ht (hDs.step hs)⟩
    | false =>
      have h : (ob (regS P G call N ops.toList ops.toList T st) fun r => some (Ex.nor, r)) = some (x, T', st') := h
      replace h := ob_eq h
      obtain ⟨r, hr, h⟩ := h
      injection h with h
      injection h with e1 e2
      subst e1 e2
      have hall : (List.range ops.size).map (fun i => ops[i]?) = ops.toList.map some := by
        apply List.ext_getElem?
        intro i
        have e : ops.toList[i]? = ops[i]? := Array.getElem?_toList
        rw [List.getElem?_map, List.getElem?_map, e]
        by_cases hi : i < ops.size
        · rw [List.getElem?_range hi]; simp [hi]
        · rw [List.getElem?_eq_none (by rw [List.length_range]; omega), Array.getElem?_eq_none (by omega)]; rfl
      obtain ⟨k1, ⟨p1, w1, a1, k2, k2'⟩, _⟩ := regS_ok hcall (r := none) (Q := fun _ _ _ => True) ops.toList (List.range ops.size) hall T T' st st' hr hf w0 p w a H hG hT
      refine ⟨k1, ⟨p1, w1, a1, ds, k2, k2', hDs.step k2⟩, fun Q hQ => wpIn_region ?_⟩
      exact (regS_ok hcall ops.toList (List.range ops.size) hall T T' st st' hr hf w0 p w a H hG hT).2.2 fun p' w' a' hs ht => hQ p' w' a' ds hs ht (hDs.step hs)
  | seq x y ihx ihy =>
    intro r hr T T' st st' e h hf w0 s0 p w a ds H hG hT hDs
    have hrx : r.isSome = true → plainC x = true := fun h => (bif_and (hr h)).1
    have hry : r.isSome = true → plainC y = true := fun h => (bif_and (hr h)).2
    have h : thenF (codeF P G call N L x T st) (codeF P G call N L y) = some (e, T', st') := h
    rcases thenF_eq h with ⟨T1, st1, h1, h2⟩ | ⟨h1, hx⟩
    · obtain ⟨k1, ⟨pr, wr, ar, dr, kr, kt, kd⟩, k3⟩ := ihx r hrx T T1 st st1 .nor h1 hf w0 s0 p w a ds H hG hT hDs
      obtain ⟨m1, ⟨p2, w2, a2, d2, m2, mt, md⟩, _⟩ := ihy r hry T1 T' st1 st' e h2 (k1.fresh hf) w0 s0 pr wr ar dr kr.hr (hG.le kr.le) kt kd
      refine ⟨k1.trans m1, ⟨p2, w2, a2, d2, kr.trans m2, mt, md⟩, fun Q hQ => wpIn_seq (k3 _ fun p1 w1 a1 d1 hs1 hT1 hD1 => ?_)⟩
      exact (ihy r hry T1 T' st1 st' e h2 (k1.fresh hf) w0 s0 p1 w1 a1 d1 hs1.hr (hG.le hs1.le) hT1 hD1).2.2 Q fun p' w' a' d' hs' hT' hD' => hQ p' w' a' d' (hs1.trans hs') hT' hD'
    · obtain ⟨k1, k2, k3⟩ := ihx r hrx T T' st st' e h1 hf w0 s0 p w a ds H hG hT hDs
      refine ⟨k1, k2, fun Q hQ => wpIn_seq (k3 _ fun p1 w1 a1 d1 hs1 hT1 hD1 => ?_)⟩
      have := hQ p1 w1 a1 d1 hs1 hT1 hD1
      cases e with
      | nor => exact absurd rfl hx
      | exit i => exact this
      | ret => exact this
  | cond c x y ihx ihy =>
    intro r hr T T' st st' e h hf w0 s0 p w a ds H hG hT hDs
    have hrx : r.isSome = true → plainC x = true := fun h => (bif_and (hr h)).1
    have hry : r.isSome = true → plainC y = true := fun h => (bif_and (hr h)).2
    have h : condF (opd G T c) (tl (codeF P G call N L x T st)) (tl (codeF P G call N L y T st)) = some (e, T', st') := h
    replace h := ob_eq h
    obtain ⟨u, hu, h⟩ := h
    split at h
    · rename_i b
      have hev : a.eval c = .bool b := (opd_fit H hG hT c _ hu).1
      cases b with
      | true =>
        obtain ⟨k1, k2, k3⟩ := ihx r hrx T T' st st' e h hf w0 s0 p w a ds H hG hT hDs
        exact ⟨k1, k2, fun Q hQ => wpIn_cond_true hev (k3 Q hQ)⟩
      | false =>
        obtain ⟨k1, k2, k3⟩ := ihy r hry T T' st st' e h hf w0 s0 p w a ds H hG hT hDs
        exact ⟨k1, k2, fun Q hQ => wpIn_cond_false hev (k3 Q hQ)⟩
    · cases h
  | block id c ih =>
    intro r hr T T' st st' e h hf w0 s0 p w a ds H hG hT hDs
    have h : blockF id (codeF P G call N L c T st) = some (e, T', st') := h
    replace h := ob_eq h
    obtain ⟨⟨e1, T1, st1⟩, hc, h⟩ := h
    cases e1 with
    | nor =>
      injection h with h
      simp only [Prod.mk.injEq] at h
      obtain ⟨rfl, rfl, rfl⟩ := h
      obtain ⟨k1, k2, k3⟩ := ih r hr T T1 st st1 .nor hc hf w0 s0 p w a ds H hG hT hDs
      exact ⟨k1, k2, fun Q hQ => wpIn_block (k3 _ hQ)⟩
    | ret =>
      injection h with h
      simp only [Prod.mk.injEq] at h
      obtain ⟨rfl, rfl, rfl⟩ := h
      obtain ⟨k1, k2, k3⟩ := ih r hr T T1 st st1 .ret hc hf w0 s0 p w a ds H hG hT hDs
      exact ⟨k1, k2, fun Q hQ => wpIn_block (k3 _ hQ)⟩
    | exit i =>
      have h : bif' (Nat.beq i id) (some (Ex.nor, T1, st1)) (some (Ex.exit i, T1, st1)) = some (e, T', st') := h
      obtain ⟨k1, k2, k3⟩ := ih r hr T T1 st st1 (.exit i) hc hf w0 s0 p w a ds H hG hT hDs
      cases hb : Nat.beq i id with
      | true =>
        rw [hb, bif_true] at h
        injection h with h
        simp only [Prod.mk.injEq] at h
        obtain ⟨rfl, rfl, rfl⟩ := h
        have hi := Nat.eq_of_beq_eq_true hb
        exact ⟨k1, k2, fun Q hQ => wpIn_block (k3 _ fun p1 w1 a1 d1 hs1 hT1 hD1 => by simp only [exOf, Exit.inBlock, hi, if_true]; exact hQ p1 w1 a1 d1 hs1 hT1 hD1)⟩
      | false =>
        rw [hb, bif_false] at h
        injection h with h
        simp only [Prod.mk.injEq] at h
        obtain ⟨rfl, rfl, rfl⟩ := h
        have hi : i ≠ id := fun e => by subst e; simp at hb
        exact ⟨k1, k2, fun Q hQ => wpIn_block (k3 _ fun p1 w1 a1 d1 hs1 hT1 hD1 => by simp only [exOf, Exit.inBlock, hi, if_false]; exact hQ p1 w1 a1 d1 hs1 hT1 hD1)⟩
  | loop c ih =>
    intro r hr T T' st st' e h hf w0 s0 p w a ds H hG hT hDs
    obtain ⟨k1, k2, k3⟩ := loop_does (ih r hr) L T T' st st' e h hf w0 s0 p w a ds H hG hT hDs
    exact ⟨k1, k2, fun Q hQ => wpIn_loop_rounds L (k3 Q hQ)⟩
  | rangeFunc f ps as b iha ihb =>
    intro r hr
    cases r with
    | some l => cases hr rfl
    | none =>
      intro T T' st st' x h
      have h' : rangeF P G N f ps.toList (bif' (plainC as) (plainC b) false) (codeF P G call N L as) (codeF P G call N L b) T st = some (x, T', st') := h
      obtain ⟨ha, hb⟩ := bif_and (need_eq h').1
      exact range_does hE (fun l => iha (some l) fun _ => ha) (fun l => ihb (some l) fun _ => hb) f _ T T' st st' x h'
  | exit id => intro r hr; exact does_now fun Q a w => wpIn_exit
  | scope b _ => intro r hr; exact does_none
  | label l => intro r hr; exact does_now fun Q a w => wpIn_label
  | goto l => intro r hr; exact does_none
  | ret => intro r hr; exact does_now fun Q a w => wpIn_ret
  | refuse s => intro r hr; exact does_none

/-! Calls. -/
theorem fnOf_ok {P : Program} {f : FuncId} {c : Code} {n : Nat} {rs : List ResultVar} (h : fnOf P f = some (c, n, rs)) : ∃ fn, P.funcs[f]? = some fn ∧ fn.body = some c ∧ fn.ntmps = n ∧ fn.results.toList = rs ∧ (fn.name == "runtime.NumGoroutine") = false := by
  unfold fnOf at h
  split at h
  · rename_i fn hfn
    split at h
    · rename_i c' hb
      obtain ⟨h1, h2⟩ := bif_none h
      injection h2 with h2
      simp only [Prod.mk.injEq] at h2
      obtain ⟨rfl, rfl, rfl⟩ := h2
      exact ⟨fn, hfn, hb, rfl, rfl, h1⟩
    · cases h
  · cases h
/-- Arguments are the first temporaries. -/
theorem argsF_eq {β : Type} (k : Tr AV → β) : ∀ (l : List AV) (i : Nat) (T : Tr AV), (∀ t, i ≤ t → tget T t = .tup []) → ∃ T', List.rec (motive := fun _ => Nat → Tr AV → β) (fun (_ : Nat) T => k T) (fun v _ ih i T => T.put i v (ih (i + 1))) l i T = k T' ∧
    ∀ t, tget T' t = if t < i then tget T t else (l[t - i]?).getD (.tup []) := by
  intro l
  induction l with
  | nil =>
    intro i T hT
    refine ⟨T, rfl, fun t => ?_⟩
    by_cases h : t < i
    · rw [if_pos h]
    · rw [if_neg h, hT t (by omega)]; simp
  | cons v l ih =>
    intro i T hT
    obtain ⟨T', h1, h2⟩ := ih (i + 1) (T.set i v) fun t ht => by rw [tget_set, if_neg (by omega)]; exact hT t (by omega)
    refine ⟨T', ?_, fun t => ?_⟩
    · show T.put i v _ = _
      rw [Tr.put_eq]
      exact h1
    · rw [h2, tget_set]
      by_cases h : t < i
      · rw [if_pos (by omega), if_neg (by omega), if_pos h]
      · rw [if_neg h]
        by_cases h3 : t = i
        · subst h3; rw [if_pos (by omega), if_pos rfl]; simp
        · rw [if_neg (by omega), show t - i = (t - (i + 1)) + 1 by omega]; simp
theorem args_TR {p : Pls} {h : Hp} {l : List AV} (hl : WFL h l) {N : Nat} (hn : l.length ≤ N) {T : Tr AV} (hT : ∀ t, tget T t = (l[t]?).getD (.tup [])) :
    TR p h T { tmps := (concL p l).toArray ++ Array.replicate (N - (concL p l).toArray.size) undef, defers := [] } N [] := by
  have hs : (concL p l).toArray.size = l.length := by simp [concL_length]
  refine ⟨by simp [concL_length]; omega, fun t => ?_, rfl⟩
  rw [hT]
  cases hv : l[t]? with
  | some v =>
    have hlt := (List.getElem?_eq_some_iff.1 hv).1
    refine ⟨?_, hl.get hv⟩
    have e : ((concL p l).toArray ++ Array.replicate (N - (concL p l).toArray.size) undef)[t]? = some (conc p v) := by
      rw [Array.getElem?_append_left (by rw [hs]; exact hlt)]
      exact rowHolds l t v hv
    rw [Array.getD_eq_getD_getElem?, e]; rfl
  | none =>
    have hge : l.length ≤ t := List.getElem?_eq_none_iff.1 hv
    refine ⟨?_, trivial⟩
    rw [Array.getD_eq_getD_getElem?, Array.getElem?_append_right (by rw [hs]; exact hge)]
    rw [Array.getElem?_replicate]
    split <;> rfl

theorem results_ok {P : Program} {w0 : World} {p : Pls} {w : World} {st : St} {T : Tr AV} {a : Act} {N : Nat} {ds : List Deferred} (H : HR w0 p st.h.get w) (hT : TR p st.h.get T a N ds) : ∀ (l : List ResultVar) (vs : List AV), mapO (resF P T st) l = some vs →
    (l.mapM fun | .tmp t => pure (a.tmps.getD t undef) | .cell b t => (do loadVar t (← asAddr (a.tmps.getD b undef))) : Sem (List Value)).run P w = .ok (concL p vs) w ∧ WFL st.h.get vs := by
  intro l
  induction l with
  | nil => intro vs h; injection h with h; subst h; exact ⟨rfl, trivial⟩
  | cons r l ih =>
    intro vs h
    rw [mapO_cons] at h
    replace h := ob_eq h
    obtain ⟨v, hv, h⟩ := h
    replace h := ob_eq h
    obtain ⟨t, ht, h⟩ := h
    injection h with h
    subst h
    obtain ⟨h1, h2⟩ := ih t ht
    rw [List.mapM_cons]
    unfold resF at hv
    split at hv
    · injection hv with hv
      subst hv
      rename_i t'
      obtain ⟨k1, k2⟩ := hT.get t'
      exact ⟨by simp only [Sem.run_bind, Sem.run_pure, Result.andThen_ok, h1, k1, concL], k2, h2⟩
    · rename_i b t'
      obtain ⟨k1, k2⟩ := hT.get b
      obtain ⟨m1, m2⟩ := loadA_ok hv H
      refine ⟨?_, m2, h2⟩
      unfold loadA at hv
      split at hv
      · rename_i x c m off heq
        rw [heq] at k1 k2 m1
        obtain ⟨q, hq, e1⟩ := conc_ptr H.cov k2
        rw [e1] at k1 m1
        simp only [Instr.loadAt, Instr.sureAddr, Sem.run_bind, Sem.run_pure, Result.andThen_ok] at m1
        have ha : (asAddr (a.tmps.getD b undef)).run P w = .ok ⟨q.b, q.d + off, none⟩ w := by rw [k1]; rfl
        simp only [Sem.run_bind, Sem.run_pure, Result.andThen_ok, h1, ha, m1, concL]
      · cases hv

theorem leaves_marks {P : Program} {fn : Func} {tmps : Array Value} {R : Ending → World → Prop} {w0 : World} {p p' : Pls} {h h' : Hp} {w : World} (H : HR w0 p h w)
    (hl : ∀ W', Step w0 p w p' h' W' → LeavesIn (FR none) 0 P fn tmps R [] .returning W') : ∀ (ds : List Deferred) (W : World), Step w0 p w p' h' W → DOk w.heap.size p' W ds → LeavesInM (FR none) 0 P fn tmps R ds .returning W := by
  intro ds
  induction ds with
  | nil => intro W hS _; exact hl W hS
  | cons d ds ih =>
    intro W hS hD
    obtain ⟨D, h1, h2, h3, h4⟩ := hD.all d (List.mem_cons_self ..)
    refine ⟨(by intro e; cases e), .inl ⟨D, _, (by rw [h1]), run_takeDeferred h2, ih _ (hS.turn H _ h4 h3) ⟨fun d' hd' => ?_, (List.nodup_cons.1 hD.nodup).2, by rw [size_putObj]; exact hD.le⟩⟩⟩
    obtain ⟨D', k1, k2, k3, k4⟩ := hD.all d' (List.mem_cons_of_mem _ hd')
    refine ⟨D', k1, ?_, k3, k4⟩
    rw [keep_putObj W _ fun e => ?_]
    · exact k2
    · subst e
      rw [← h1] at k1
      subst k1
      exact (List.nodup_cons.1 hD.nodup).1 hd'

theorem call_ok {P : Program} {G : Env} (hD : DrawOk P G) (hE : EnvOk P G) (L : Nat) : ∀ fuel, CallOk P G (callF P G L fuel) := by
  intro fuel
  induction fuel with
  | zero => intro f args st v st' h; cases h
  | succ fuel ih =>
    intro f args st v st' h hf hargs
    have h : (Option.rec (ob (fnOf P f) fun q => need (Nat.ble (lenL args) q.2.1) (argsF args fun T => endF (codeF P G (callF P G L fuel) q.2.1 L q.1 T st) fun T st => ob (resultsF P q.2.2 T st) fun v => some (v, st))) (fun sm => sm args st) (G.s f) : Option (AV × St)) = some (v, st') := h
    cases hsm : G.s f with
    | some sm =>
      rw [hsm] at h
      exact hE.sums f sm hsm args st v st' h hf hargs
    | none =>
    rw [hsm] at h
    have h : (ob (fnOf P f) fun q => need (Nat.ble (lenL args) q.2.1) (argsF args fun T => endF (codeF P G (callF P G L fuel) q.2.1 L q.1 T st) fun T st => ob (resultsF P q.2.2 T st) fun v => some (v, st))) = some (v, st') := h
    replace h := ob_eq h
    obtain ⟨⟨c, n, rs⟩, hfn, h⟩ := h
    obtain ⟨fn, f1, f2, f3, f4, f5⟩ := fnOf_ok hfn
    replace h := need_eq h
    obtain ⟨hn, h⟩ := h
    replace hn := Nat.le_of_ble_eq_true hn
    rw [lenL_eq] at hn
    simp only at hn h
    refine ⟨⟨fn, f1, by rw [f2]; rfl, f5⟩, fun w0 p w H hG => ?_⟩
    obtain ⟨T, hT1, hT2⟩ := argsF_eq (fun T => endF (codeF P G (callF P G L fuel) n L c T st) fun T st => ob (resultsF P rs T st) fun v => some (v, st)) args 0 .nil fun t _ => rfl
    have h : endF (codeF P G (callF P G L fuel) n L c T st) (fun T st => ob (resultsF P rs T st) fun v => some (v, st)) = some (v, st') := hT1.symm.trans h
    replace h := ob_eq h
    obtain ⟨⟨e, T', st1⟩, hc, h⟩ := h
    have hTR : TR p st.h.get T { tmps := (concL p args).toArray ++ Array.replicate (n - (concL p args).toArray.size) undef, defers := [] } n [] := args_TR hargs hn fun t => by rw [hT2, if_neg (by omega), Nat.sub_zero]
    have he : (e = .nor ∨ e = .ret) ∧ (ob (resultsF P rs T' st1) fun v => some (v, st1)) = some (v, st') := by
      cases e with
      | nor => exact ⟨.inl rfl, h⟩
      | exit i => cases h
      | ret => exact ⟨.inr rfl, h⟩
    obtain ⟨he, h⟩ := he
    replace h := ob_eq h
    obtain ⟨u, hu, h⟩ := h
    injection h with h
    injection h with e1 e2
    subst e1 e2
    obtain ⟨k1, _, k3⟩ := code_does hD hE ih n L c none (fun h => by cases h) T T' st st1 e hc hf w0 w.heap.size p w _ [] H hG hTR DOk.nil
    refine ⟨k1, ?_⟩
    rw [← callsIn_FR (r := none) (n := 0)]
    refine callsIn_of_wp_marks f1 f2 trivial ?_
    rw [f3]
    refine k3 _ fun p' w' a' ds' hs hT' hD' => ?_
    have hres : ∀ W', Step w0 p w p' st1.h.get W' → LeavesIn (FR none) 0 P fn a'.tmps (CPost w0 p w st1 u) [] .returning W' := by
      intro W' hs
      have : ∃ val, (results fn a'.tmps).run P W' = .ok val W' ∧ val = conc p' u ∧ WF st1.h.get u := by
        unfold resultsF at hu
        obtain ⟨vs, hvs, hu⟩ := ob_eq hu
        obtain ⟨m1, m2⟩ := results_ok hs.hr hT' rs vs hvs
        refine ⟨conc p' u, ?_, rfl, ?_⟩
        · unfold results
          rw [Sem.run_bind, Array.mapM_eq_mapM_toList, Sem.run_map, f4]
          erw [m1]
          simp only [Result.andThen_ok, Sem.run_pure]
          cases vs with
          | nil => injection hu with hu; subst hu; rfl
          | cons x vs => cases vs with
            | nil => injection hu with hu; subst hu; rfl
            | cons y vs => injection hu with hu; subst hu; simp [concL, conc]
        · cases vs with
          | nil => injection hu with hu; subst hu; trivial
          | cons x vs => cases vs with
            | nil => injection hu with hu; subst hu; exact m2.1
            | cons y vs => injection hu with hu; subst hu; exact m2
      obtain ⟨val, h1, h2, h3⟩ := this
      exact ⟨val, h1, p', by rw [h2], hs, h3⟩
    have hfin : LeavesInM (FR none) 0 P fn a'.tmps (CPost w0 p w st1 u) a'.defers .returning w' := by
      rw [hT'.defers]
      exact leaves_marks H hres ds' w' hs hD'
    rcases he with rfl | rfl
    · exact hfin
    · exact hfin

end Go.Proofs.Ytmjnbdkjekdkgaa
