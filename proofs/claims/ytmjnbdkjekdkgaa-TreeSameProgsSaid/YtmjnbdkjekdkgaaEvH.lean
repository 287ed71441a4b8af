/-
  A reckoner for closed calls: append, and all operations that are no calls.
-/
import Derived.Test.YtmjnbdkjekdkgaaEvG
namespace Go.Proofs.Ytmjnbdkjekdkgaa
open Go
set_option linter.unusedVariables false
set_option linter.unusedSimpArgs false

noncomputable section

/-! Append. -/
def appendA (P : Program) (ts : List TypeId) (s x : AV) (st : St) : Option (AV × St) := match ts with
  | t :: u :: [] => need (Nat.beq t u) (match P.underlying t with
    | some (.slice e) => need (P.underlying e).isSome (ob (zeroOf P e) fun zc => need (Nat.beq (lenL zc) (P.cellsOf e)) (need (Nat.ble 1 (P.cellsOf e)) (need (Nat.ble (P.bytesOf e) 1000000) (match x with
      | .nils => (match s with
        | .nils => some (s, st)
        | .sl _ _ _ _ _ => some (s, st)
        | _ => none)
      | .sl0 _ _ _ => (match s with
        | .nils => some (s, st)
        | .sl _ _ _ _ _ => some (s, st)
        | _ => none)
      | .sl c2 m2 off2 n _ => ob (rowOf st.h.get c2 m2) fun r2 => sNat (n * P.cellsOf e) fun nz => takeK nz (dropN off2 r2.2.2.1) fun news => (match s with
        | .nils => bif' (Nat.beq n 0) (some (.nils, st)) (need (Nat.ble n 1000000) (memRow news st fun _ c st => sNat (P.cellsOf e) fun z => some (.sl c 0 0 n z, st)))
        | .sl c m off len esz => need (Nat.beq esz (P.cellsOf e)) (ob (rowOf st.h.get c m) fun r => need (!r.2.2.2.1) (sNat (len * esz) fun lz => takeK lz (dropN off r.2.2.1) fun olds =>
            bif' (Nat.beq n 0) (some (s, st)) (need (Nat.ble (len + n) 1000000) (sList (appL olds news) fun l => sNat (lenL l) fun k => sNat (r.2.1 + off) fun vs =>
              sList (appL (killMs (vs + lz) (vs + lz + nz) r.2.2.2.2) [(k, vs, some l)]) fun ms => withCls st c (.row false ms) fun st => sNat (lenL r.2.2.2.2) fun m' => sNat (len + n) fun len' => some (.sl c m' 0 len' esz, st)))))
        | _ => none)
      | _ => none))))
    | _ => none)
  | _ => none

section
variable {P : Program}
theorem append_none {t e ty : TypeId} {i : TypeInfo} (ht : P.underlying t = some (.slice e)) (hi : P.info? e = some i) (s : Value) (hs : s = .slice none 0 0 ∨ ∃ a n c, s = .slice (some a) n c ∧ n ≤ c) (x : Value)
    (hx : (∃ c, x = .slice none 0 c) ∨ ∃ a c, x = .slice (some a) 0 c) (w : World) : (Builtin.append_ #[t, t] ty #[s, x]).run P w = .ok s w := by
  rcases hs with rfl | ⟨a, n, c, rfl, hnc⟩ <;> rcases hx with ⟨c', rfl⟩ | ⟨a', c', rfl⟩ <;>
    simp [Builtin.append_, run_underlying ht, sizeOf, typeInfo, hi, Builtin.lenOf, Builtin.firstCells, loadCells, loadCellsFrom, storeCells, *]
theorem append_room {t e ty : TypeId} {i : TypeInfo} (ht : P.underlying t = some (.slice e)) (hi : P.info? e = some i) {g o sLen sCap : Nat} {cur : Array Value} {el : TypeId} {w : World} (hg : w.heap[g]? = some (.cells cur el (0, 0)))
    (a : Addr) (m c : Nat) (news : List Value) (hl : news.length = m * i.size) (hnews : ∀ j u, news[j]? = some u → w.cell? (a.add j) = some u) (h1 : ∀ u ∈ news, u.oneCell' = true)
    (hroom : sLen + m ≤ sCap) (hfit : o + sLen * i.size + news.length ≤ cur.size) :
    (Builtin.append_ #[t, t] ty #[.slice (some ⟨g, o, none⟩) sLen sCap, .slice (some a) m c]).run P w =
      .ok (.slice (some ⟨g, o, none⟩) (sLen + m) sCap) (w.setRow g (cur.toList.take (o + sLen * i.size) ++ news ++ cur.toList.drop (o + sLen * i.size + news.length)).toArray) := by
  have hf := run_firstCells_some (P := P) w i.size m a m c news hl hnews
  have hst := run_storeCells_at P g (o + sLen * i.size) el news 0 cur w hg (by simpa using hfit) h1
  simp only [Nat.add_zero] at hst
  simp [Builtin.append_, run_underlying ht, sizeOf, typeInfo, hi, Builtin.lenOf, hroom, hf, Addr.add_lit, hst]
end

/-- Part of a live row, in the model. -/
theorem HR.part {w0 : World} {p : Pls} {h : Hp} {w : World} {q : Pl} {l : List AV} (hr : ∀ j v, (concL p l)[j]? = some v → w.cell? ⟨q.b, q.d + j, none⟩ = some v) (off n : Nat) :
    ∀ (j : Nat) (v : Value), (concL p ((l.drop off).take n))[j]? = some v → w.cell? ((⟨q.b, q.d + off, none⟩ : Addr).add j) = some v := by
  intro j v hj
  rw [add_zero_off, Nat.add_assoc]
  apply hr
  rw [concL_take, concL_drop, List.getElem?_take] at hj
  split at hj
  · rw [List.getElem?_drop] at hj; exact hj
  · cases hj

/-- Members that die are no more told of: nothing else. -/
theorem HR.kill {w0 : World} {p : Pls} {h : Hp} {w : World} {c : Nat} (H : HR w0 p h w) {ms : List (Nat × Nat × Option (List AV))} (hc : h c = some (.row false ms)) {m : Nat} {q : Pl} (hq : p c m = some q) {arr : Array Value} {el : TypeId}
    (hb : w.heap[q.b]? = some (.cells arr el (0, 0))) (lo hi : Nat) : HR w0 p (upd h c (.row false (killMs lo hi ms))) w := by
  have := H.over hc (killMs_told lo hi ms) hb rfl hq rfl fun m' e' vs' l' q' hm' hq' => by
    obtain ⟨cs0, k1, k2⟩ := killMs_get hm'
    rcases k2 with k2 | ⟨k2, _⟩
    · cases k2
    · subst k2
      refine ⟨fun hbb => ?_, fun _ => k1⟩
      obtain ⟨q2, arr2, el2, i1, i2, i3, i4, i5, i6, i7, i8, _⟩ := H.read hc k1
      replace i2 := i2.own
      rw [hq'] at i1; injection i1 with i1; subst i1
      rw [hbb, hb] at i2; injection i2 with i2; injection i2 with i2 _; subst i2
      exact ⟨i5, fun j v hj => ⟨i8 j v hj, i6.get hj, i7 v (List.mem_of_getElem? hj)⟩⟩
  have hw := this.hr
  rw [setRow_self w q.b arr el (0, 0) hb] at hw
  exact hw

/-- Behind a live member's stretch its block is written. -/
theorem HR.write {w0 : World} {p : Pls} {h : Hp} {w : World} {c m e vs at' : Nat} {l src : List AV} {ms : List (Nat × Nat × Option (List AV))} (H : HR w0 p h w) (hc : h c = some (.row false ms)) (hm : ms[m]? = some (e, vs, some l))
    {q : Pl} {arr : Array Value} {el : TypeId} (hq : p c m = some q) (hb : w.heap[q.b]? = some (.cells arr el (0, 0))) (hfit : q.d + at' + src.length ≤ arr.size) :
    Step w0 p w p (upd h c (.row false (killMs (vs + at') (vs + at' + src.length) ms))) (w.setRow q.b ((arr.toList.take (q.d + at') ++ concL p src ++ arr.toList.drop (q.d + at' + src.length)).toArray)) ∧
    ∀ j : Nat, ((arr.toList.take (q.d + at') ++ concL p src ++ arr.toList.drop (q.d + at' + src.length)).toArray)[j]? = if q.d + at' ≤ j ∧ j < q.d + at' + src.length then (concL p src)[j - (q.d + at')]? else arr[j]? := by
  have hcl : (concL p src).length = src.length := concL_length p src
  have hseg : ∀ j : Nat, ((arr.toList.take (q.d + at') ++ concL p src ++ arr.toList.drop (q.d + at' + src.length)).toArray)[j]? = if q.d + at' ≤ j ∧ j < q.d + at' + src.length then (concL p src)[j - (q.d + at')]? else arr[j]? := by
    intro j
    have := list_seg_get arr.toList (q.d + at') (concL p src) (by simp [hcl]; omega) j
    rw [hcl] at this
    have e : arr.toList[j]? = arr[j]? := Array.getElem?_toList
    rw [List.getElem?_toArray, this, e]
  have hsz : ((arr.toList.take (q.d + at') ++ concL p src ++ arr.toList.drop (q.d + at' + src.length)).toArray).size = arr.size := by
    simp [hcl]; omega
  refine ⟨H.over hc (killMs_told _ _ ms) hb hsz hq rfl fun m' e' vs' l' q' hm' hq' => ?_, hseg⟩
  obtain ⟨cs0, k1, k2⟩ := killMs_get hm'
  rcases k2 with k2 | ⟨k2, k3⟩
  · cases k2
  · subst k2
    refine ⟨fun hbb => ?_, fun _ => k1⟩
    obtain ⟨q2, arr2, el2, i1, i2, i3, i4, i5, i6, i7, i8, _⟩ := H.read hc k1
    replace i2 := i2.own
    rw [hq'] at i1; injection i1 with i1; subst i1
    rw [hbb, hb] at i2; injection i2 with i2; injection i2 with i2 _; subst i2
    have hsm := (H.cls c _ hc).same m' e' vs' (some l') m e vs (some l) q' q k1 hm hq' hq hbb
    refine ⟨i5, fun j v hj => ?_⟩
    have hjl : j < l'.length := (List.getElem?_eq_some_iff.1 hj).1
    rw [hseg, if_neg (by omega)]
    exact ⟨i8 j v hj, i6.get hj, i7 v (List.mem_of_getElem? hj)⟩

theorem kill_exts (lo hi : Nat) (ms : List (Nat × Nat × Option (List AV))) (x : Nat × Nat × Option (List AV)) : exts (.row false ms) <+: exts (.row false (killMs lo hi ms ++ [x])) := by
  simp only [exts, List.map_append, (killMs_told lo hi ms).exts]
  exact List.prefix_append _ _
theorem newPl_mem {p : Pls} {w : World} {c m : Nat} {q : Pl} (h : w.heap.size ≤ q.b ∨ ∃ m0 x0, p c m0 = some x0 ∧ x0.b = q.b) : NewPl p (plMem p c m q) w := by
  intro c1 m1 x hx hn
  unfold plMem at hx
  split at hx
  · rename_i hh
    injection hx with hx
    subst hx
    rw [hh.1]
    exact h
  · rw [hn] at hx; cases hx

theorem appendA_ok {P : Program} {ts : Array TypeId} {ty : TypeId} {st st' : St} {s x v : AV} {R : Operand → Option AV} {S X : Operand} (h : appendA P ts.toList s x st = some (v, st')) (hS : R S = some s) (hX : R X = some x) (hf : Fresh st)
    (hw : ∀ x v, R x = some v → WF st.h.get v) : OpOk P st st' v (fun ρ _ => do pure (.value (← Builtin.append_ ts ty #[ρ S, ρ X]))) R := by
  unfold appendA at h
  split at h
  · rename_i t u hts
    replace h := need_eq h
    obtain ⟨htu, h⟩ := h
    replace htu := Nat.eq_of_beq_eq_true htu
    subst htu
    have hts' : ts = #[t, t] := by apply Array.ext'; exact hts
    subst hts'
    split at h
    · rename_i e hd
      replace h := need_eq h
      obtain ⟨het, h⟩ := h
      replace h := ob_eq h
      obtain ⟨zc, hz, h⟩ := h
      replace h := need_eq h
      obtain ⟨hzl, h⟩ := h
      replace h := need_eq h
      obtain ⟨hz1, h⟩ := h
      replace h := need_eq h
      obtain ⟨hby, h⟩ := h
      replace hzl := Nat.eq_of_beq_eq_true hzl
      replace hz1 := Nat.le_of_ble_eq_true hz1
      replace hby := Nat.le_of_ble_eq_true hby
      rw [lenL_eq] at hzl
      obtain ⟨d, hed⟩ := Option.isSome_iff_exists.mp het
      obtain ⟨i, hi⟩ := info_of_underlying hed
      have his : i.size = P.cellsOf e := by simp [Program.cellsOf, hi]
      have hib : i.bytes = P.bytesOf e := by simp [Program.bytesOf, hi]
      split at h
      · -- nothing to append
        split at h
        · injection h with h
          injection h with e1 e2
          subst e1 e2
          refine ⟨Ab.refl _, trivial, fun w0 p w ρ H hR => ⟨p, w, .inl ?_, Step.refl H⟩⟩
          rw [(hR S _ hS).1, (hR X _ hX).1]
          simp only [Sem.run_bind, append_none hd hi (conc p .nils) (.inl rfl) (conc p .nils) (.inl ⟨0, rfl⟩), Result.andThen_ok, Sem.run_pure]
        · rename_i c m off len esz
          injection h with h
          injection h with e1 e2
          subst e1 e2
          have hws := hw S _ hS
          refine ⟨Ab.refl _, hws, fun w0 p w ρ H hR => ⟨p, w, .inl ?_, Step.refl H⟩⟩
          rw [(hR S _ hS).1, (hR X _ hX).1]
          obtain ⟨q, hq, e1⟩ := conc_sl H.cov hws
          obtain ⟨C, ex, k1, k2, k3, k4⟩ := hws
          obtain ⟨q', hq', hle⟩ := H.room c m C ex k1 k2
          rw [hq] at hq'; injection hq' with hq'; subst hq'
          have hcap : len ≤ (q.e - off) / esz := (Nat.le_div_iff_mul_le k3).2 (by omega)
          simp only [Sem.run_bind, append_none hd hi (conc p (.sl c m off len esz)) (.inr ⟨_, _, _, e1, hcap⟩) (conc p .nils) (.inl ⟨0, rfl⟩), Result.andThen_ok, Sem.run_pure]
        · cases h
      · -- nothing to append
        rename_i b0 o0 s0
        split at h
        · injection h with h
          injection h with e1 e2
          subst e1 e2
          refine ⟨Ab.refl _, trivial, fun w0 p w ρ H hR => ⟨p, w, .inl ?_, Step.refl H⟩⟩
          rw [(hR S _ hS).1, (hR X _ hX).1]
          simp only [Sem.run_bind, append_none hd hi (conc p .nils) (.inl rfl) (conc p (.sl0 b0 o0 s0)) (.inr ⟨_, _, rfl⟩), Result.andThen_ok, Sem.run_pure]
        · rename_i c m off len esz
          injection h with h
          injection h with e1 e2
          subst e1 e2
          have hws := hw S _ hS
          refine ⟨Ab.refl _, hws, fun w0 p w ρ H hR => ⟨p, w, .inl ?_, Step.refl H⟩⟩
          rw [(hR S _ hS).1, (hR X _ hX).1]
          obtain ⟨q, hq, e1⟩ := conc_sl H.cov hws
          obtain ⟨C, ex, k1, k2, k3, k4⟩ := hws
          obtain ⟨q', hq', hle⟩ := H.room c m C ex k1 k2
          rw [hq] at hq'; injection hq' with hq'; subst hq'
          have hcap : len ≤ (q.e - off) / esz := (Nat.le_div_iff_mul_le k3).2 (by omega)
          simp only [Sem.run_bind, append_none hd hi (conc p (.sl c m off len esz)) (.inr ⟨_, _, _, e1, hcap⟩) (conc p (.sl0 b0 o0 s0)) (.inr ⟨_, _, rfl⟩), Result.andThen_ok, Sem.run_pure]
        · cases h
      · rename_i c2 m2 off2 n esz2
        replace h := ob_eq h
        obtain ⟨⟨e2, vs2, l2, ro2, ms2⟩, hr2, h⟩ := h
        rw [sNat_eq] at h
        replace h := takeK_eq _ _ _ _ h
        obtain ⟨ht2, h⟩ := h
        obtain ⟨hc2, hm2⟩ := rowOf_ok hr2
        simp only [dropN_eq] at ht2 h
        have hnl : ((l2.drop off2).take (n * P.cellsOf e)).length = n * P.cellsOf e := by rw [List.length_take]; omega
        split at h
        · -- to nil
          cases hn0 : Nat.beq n 0 with
          | true =>
            rw [hn0, bif_true] at h
            replace hn0 := Nat.eq_of_beq_eq_true hn0
            subst hn0
            injection h with h
            injection h with e1 e2
            subst e1 e2
            refine ⟨Ab.refl _, trivial, fun w0 p w ρ H hR => ⟨p, w, .inl ?_, Step.refl H⟩⟩
            rw [(hR S _ hS).1, (hR X _ hX).1]
            obtain ⟨q, hq, e1⟩ := conc_sl H.cov (hw X _ hX)
            simp only [Sem.run_bind, append_none hd hi (conc p .nils) (.inl rfl) (conc p (.sl c2 m2 off2 0 esz2)) (.inr ⟨_, _, e1⟩), Result.andThen_ok, Sem.run_pure]
          | false =>
            rw [hn0, bif_false] at h
            replace h := need_eq h
            obtain ⟨hnb, h⟩ := h
            replace hnb := Nat.le_of_ble_eq_true hnb
            have hnp : 0 < n := Nat.pos_of_ne_zero fun e => by subst e; cases hn0
            rw [memRow_eq, sNat_eq] at h
            injection h with h
            injection h with e1 e2
            subst e1 e2
            refine ⟨ab_new hf _, ?_, fun w0 p w ρ H hR => ?_⟩
            · rw [set_upd]; exact wf_newSl _ _ _ _ _ _ _ _ (by omega) (by rw [hnl]; exact Nat.le_refl _)
            · obtain ⟨q2, arr2, el2, i1, i2, i3, i4, i5, i6, i7, i8, i9⟩ := H.read hc2 hm2
              have hx1 := (hR X _ hX).1
              have e1 : conc p (.sl c2 m2 off2 n esz2) = .slice (some ⟨q2.b, q2.d + off2, none⟩) n ((q2.e - off2) / esz2) := by simp only [conc, i1]
              obtain ⟨zv, z1, z2, z3, z4, i', hi', hiz⟩ := zeroOf_ok hz p st.h.get
              rw [hi] at hi'; injection hi' with hi'; subst hi'
              have hprod : n * i.bytes ≤ 1000000 * 1000000 := Nat.mul_le_mul hnb (by rw [hib]; exact hby)
              have hrun := run_append_nil (P := P) w t ty e i zv hd hi hiz ⟨q2.b, q2.d + off2, none⟩ n ((q2.e - off2) / esz2) (concL p ((l2.drop off2).take (n * P.cellsOf e))) (by rw [concL_length, hnl, his]) (HR.part (w0 := w0) (h := st.h.get) i9 off2 _) hnp (by omega) (by omega)
              have hge := grownCap_ge w n 0 e
              have hzz : zv.cells.size = P.cellsOf e := by rw [z2]; simp [concL_length, hzl]
              have hasz : ((concL p ((l2.drop off2).take (n * P.cellsOf e))).toArray ++ Builtin.zeroCells zv.cells (grownCap w n 0 e - n)).size = grownCap w n 0 e * P.cellsOf e := by
                rw [Array.size_append, size_zeroCells, hzz, List.size_toArray, concL_length, hnl, ← Nat.add_mul]
                congr 1
                omega
              have hs := (H.drew (w.drawn + 1)).newRow (hf st.n (Nat.le_refl _)) ((l2.drop off2).take (n * P.cellsOf e)) ((concL p ((l2.drop off2).take (n * P.cellsOf e))).toArray ++ Builtin.zeroCells zv.cells (grownCap w n 0 e - n)) e
                (WFL.sub i6 fun v hv => List.mem_of_mem_drop (List.mem_of_mem_take hv)) (fun v hv => i7 v (List.mem_of_mem_drop (List.mem_of_mem_take hv)))
                (by rw [hasz, hnl]; exact Nat.mul_le_mul_right _ hge) (fun j v hj => by
                  have hjl := (List.getElem?_eq_some_iff.1 hj).1
                  rw [Array.getElem?_append_left (by rw [List.size_toArray, concL_length]; exact hjl)]
                  exact rowHolds _ j v hj)
              refine ⟨_, _, .inl ?_, by rw [set_upd]; exact (Step.drew H (w.drawn + 1)).trans hs⟩
              rw [(hR S _ hS).1, hx1, e1]
              have hfin : conc (plNew p st.n w.heap.size ((concL p ((l2.drop off2).take (n * P.cellsOf e))).toArray ++ Builtin.zeroCells zv.cells (grownCap w n 0 e - n)).size) (.sl st.n 0 0 n (P.cellsOf e)) = .slice (some ⟨w.heap.size, 0, none⟩) n (grownCap w n 0 e) := by
                simp only [conc, plNew_self]
                rw [hasz, Nat.sub_zero, Nat.mul_div_cancel _ (by omega)]
              simp only [Sem.run_bind, conc, hrun, Result.andThen_ok, Sem.run_pure]
              rw [← hfin]
              rfl
        · rename_i c m off len esz
          replace h := need_eq h
          obtain ⟨hez, h⟩ := h
          replace hez := Nat.eq_of_beq_eq_true hez
          subst hez
          replace h := ob_eq h
          obtain ⟨⟨e1, vs, l, ro, ms⟩, hr, h⟩ := h
          replace h := need_eq h
          obtain ⟨hro, h⟩ := h
          rw [sNat_eq] at h
          replace h := takeK_eq _ _ _ _ h
          obtain ⟨ht1, h⟩ := h
          obtain ⟨hc, hm⟩ := rowOf_ok hr
          simp only [dropN_eq] at ht1 h hro
          have hro : ro = false := by cases ro <;> simp_all
          subst hro
          have hws := hw S _ hS
          cases hn0 : Nat.beq n 0 with
          | true =>
            rw [hn0, bif_true] at h
            replace hn0 := Nat.eq_of_beq_eq_true hn0
            subst hn0
            injection h with h
            injection h with e1 e2
            subst e1 e2
            refine ⟨Ab.refl _, hws, fun w0 p w ρ H hR => ⟨p, w, .inl ?_, Step.refl H⟩⟩
            rw [(hR S _ hS).1, (hR X _ hX).1]
            obtain ⟨q2, hq2, e2⟩ := conc_sl H.cov (hw X _ hX)
            obtain ⟨q, hq, e1⟩ := conc_sl H.cov hws
            obtain ⟨C, ex, k1, k2, k3, k4⟩ := hws
            obtain ⟨q', hq', hle⟩ := H.room c m C ex k1 k2
            rw [hq] at hq'; injection hq' with hq'; subst hq'
            have hcap : len ≤ (q.e - off) / P.cellsOf e := (Nat.le_div_iff_mul_le k3).2 (by omega)
            simp only [Sem.run_bind, append_none hd hi (conc p (.sl c m off len (P.cellsOf e))) (.inr ⟨_, _, _, e1, hcap⟩) (conc p (.sl c2 m2 off2 0 esz2)) (.inr ⟨_, _, e2⟩), Result.andThen_ok, Sem.run_pure]
          | false =>
            rw [hn0, bif_false] at h
            replace h := need_eq h
            obtain ⟨hnb, h⟩ := h
            replace hnb := Nat.le_of_ble_eq_true hnb
            have hnp : 0 < n := Nat.pos_of_ne_zero fun e => by subst e; cases hn0
            simp only [sList_eq, sNat_eq, lenL_eq, appL_eq, withCls_eq] at h
            injection h with h
            injection h with f1 f2
            subst f1 f2
            have hol : ((l.drop off).take (len * P.cellsOf e)).length = len * P.cellsOf e := by rw [List.length_take]; omega
            have hll : ((l.drop off).take (len * P.cellsOf e) ++ (l2.drop off2).take (n * P.cellsOf e)).length = (len + n) * P.cellsOf e := by rw [List.length_append, hol, hnl, Nat.add_mul]
            refine ⟨ab_set hc (kill_exts _ _ _ _), ?_, fun w0 p w ρ H hR => ?_⟩
            · rw [set_upd]
              refine ⟨_, (len + n) * P.cellsOf e, upd_self _ _ _, ?_, by omega, by omega⟩
              simp only [exts, List.map_append, List.map_cons, List.map_nil]
              rw [List.getElem?_append_right (by rw [List.length_map, killMs_length]; exact Nat.le_refl _), List.length_map, killMs_length, Nat.sub_self, hll]
              rfl
            · obtain ⟨q2, arr2, el2, i1, i2, i3, i4, i5, i6, i7, i8, i9⟩ := H.read hc2 hm2
              obtain ⟨q, arr, el, j1, j2, j3, j4, j5, j6, j7, j8, j9⟩ := H.read hc hm
              replace j2 := j2.own
              have hn0q : w0.heap.size ≤ q.b := by
                obtain ⟨q', _, _, r1, _, _, _, r5, _⟩ := (H.cls c _ hc).mem m e1 vs _ hm
                rw [j1] at r1; injection r1 with r1; subst r1
                exact r5 rfl
              have hx1 := (hR X _ hX).1
              have ex2 : conc p (.sl c2 m2 off2 n esz2) = .slice (some ⟨q2.b, q2.d + off2, none⟩) n ((q2.e - off2) / esz2) := by simp only [conc, i1]
              have ex1 : conc p (.sl c m off len (P.cellsOf e)) = .slice (some ⟨q.b, q.d + off, none⟩) len ((q.e - off) / P.cellsOf e) := by simp only [conc, j1]
              have hnews := HR.part (w0 := w0) (h := st.h.get) i9 off2 (n * P.cellsOf e)
              have holds := HR.part (w0 := w0) (h := st.h.get) j9 off (len * P.cellsOf e)
              have hwfn : WFL st.h.get ((l2.drop off2).take (n * P.cellsOf e)) := WFL.sub i6 fun v hv => List.mem_of_mem_drop (List.mem_of_mem_take hv)
              have hcn : ∀ v ∈ (l2.drop off2).take (n * P.cellsOf e), isCell v = true := fun v hv => i7 v (List.mem_of_mem_drop (List.mem_of_mem_take hv))
              have hwfo : WFL st.h.get ((l.drop off).take (len * P.cellsOf e)) := WFL.sub j6 fun v hv => List.mem_of_mem_drop (List.mem_of_mem_take hv)
              have hco : ∀ v ∈ (l.drop off).take (len * P.cellsOf e), isCell v = true := fun v hv => j7 v (List.mem_of_mem_drop (List.mem_of_mem_take hv))
              have hwfa : WFL st.h.get ((l.drop off).take (len * P.cellsOf e) ++ (l2.drop off2).take (n * P.cellsOf e)) := (WFL_iff _ _).2 fun v hv => by
                rcases List.mem_append.1 hv with hv | hv
                · exact (WFL_iff _ _).1 hwfo v hv
                · exact (WFL_iff _ _).1 hwfn v hv
              have hca : ∀ v ∈ (l.drop off).take (len * P.cellsOf e) ++ (l2.drop off2).take (n * P.cellsOf e), isCell v = true := fun v hv => by
                rcases List.mem_append.1 hv with hv | hv
                · exact hco v hv
                · exact hcn v hv
              rw [(hR S _ hS).1, hx1, ex1, ex2]
              by_cases hroom : len + n ≤ (q.e - off) / P.cellsOf e
              · -- in place
                have hroom' : (len + n) * P.cellsOf e ≤ q.e - off := (Nat.le_div_iff_mul_le (by omega)).1 hroom
                rw [Nat.add_mul] at hroom'
                have hoff : off ≤ q.e := by
                  rw [List.length_drop] at ht1
                  rcases Nat.lt_or_ge q.e off with hlt | hge
                  · have : n * P.cellsOf e ≤ 0 := by omega
                    have : 0 < n * P.cellsOf e := Nat.mul_pos hnp (by omega)
                    omega
                  · exact hge
                have hfit : q.d + (off + len * P.cellsOf e) + ((l2.drop off2).take (n * P.cellsOf e)).length ≤ arr.size := by rw [hnl]; omega
                obtain ⟨hwr, hseg⟩ := H.write (src := (l2.drop off2).take (n * P.cellsOf e)) hc hm j1 j2 hfit
                have hone : ∀ u ∈ concL p ((l2.drop off2).take (n * P.cellsOf e)), u.oneCell' = true := by
                  intro u hu
                  rw [concL_eq, List.mem_map] at hu
                  obtain ⟨a, ha, rfl⟩ := hu
                  exact conc_one H.cov ((WFL_iff _ _).1 hwfn a ha) (hcn a ha)
                have hrun := append_room (P := P) (ty := ty) hd hi j2 (o := q.d + off) (sLen := len) (sCap := (q.e - off) / P.cellsOf e) ⟨q2.b, q2.d + off2, none⟩ n ((q2.e - off2) / esz2) (concL p ((l2.drop off2).take (n * P.cellsOf e)))
                  (by rw [concL_length, hnl, his]) hnews hone hroom (by rw [concL_length, his]; omega)
                rw [his, concL_length, Nat.add_assoc] at hrun
                have hset := setRow_heap w q.b arr ((arr.toList.take (q.d + (off + len * P.cellsOf e)) ++ concL p ((l2.drop off2).take (n * P.cellsOf e)) ++ arr.toList.drop (q.d + (off + len * P.cellsOf e) + ((l2.drop off2).take (n * P.cellsOf e)).length)).toArray) el (0, 0) j2
                have hsz : ((arr.toList.take (q.d + (off + len * P.cellsOf e)) ++ concL p ((l2.drop off2).take (n * P.cellsOf e)) ++ arr.toList.drop (q.d + (off + len * P.cellsOf e) + ((l2.drop off2).take (n * P.cellsOf e)).length)).toArray).size = arr.size := by
                  simp [concL_length]; omega
                have hgain := hwr.hr.gain (upd_self _ _ _) ⟨q.b, q.d + off, q.e - off⟩ (vs + off) ((l.drop off).take (len * P.cellsOf e) ++ (l2.drop off2).take (n * P.cellsOf e)) hset (by rw [hsz]; simp only; omega) (by rw [hll, Nat.add_mul]; exact hroom') hn0q
                  (WFL.grow (grow_upd fun C hC => by rw [hc] at hC; injection hC with hC; subst hC; simp only [exts, (killMs_told _ _ ms).exts]; exact List.prefix_refl _) _ hwfa) hca
                  (fun j v hj => by
                    rw [hseg]
                    simp only
                    by_cases hj2 : j < len * P.cellsOf e
                    · rw [if_neg (by omega)]
                      rw [List.getElem?_append_left (by rw [hol]; exact hj2), List.getElem?_take, if_pos hj2, List.getElem?_drop] at hj
                      rw [Nat.add_assoc]
                      exact j8 _ v hj
                    · rw [List.getElem?_append_right (by rw [hol]; omega), hol] at hj
                      have := (List.getElem?_eq_some_iff.1 hj).1
                      rw [if_pos (by omega), show q.d + off + j - (q.d + (off + len * P.cellsOf e)) = j - len * P.cellsOf e by omega, concL_get, hj]
                      rfl)
                  (.inr ⟨m, q, j1, rfl⟩)
                  (fun m' e' vs' cs' q' hm' hq' hb' => by
                    obtain ⟨cs0, k1, _⟩ := killMs_get hm'
                    have := (H.cls c _ hc).same m' e' vs' cs0 m e1 vs _ q' q k1 hm hq' j1 hb'
                    simp only
                    omega)
                rw [upd_upd, killMs_length] at hgain
                have hfin : conc (plMem p c ms.length ⟨q.b, q.d + off, q.e - off⟩) (.sl c ms.length 0 (len + n) (P.cellsOf e)) = .slice (some ⟨q.b, q.d + off, none⟩) (len + n) ((q.e - off) / P.cellsOf e) := by
                  simp only [conc, plMem, and_self, if_true, Nat.add_zero, Nat.sub_zero]
                refine ⟨plMem p c ms.length ⟨q.b, q.d + off, q.e - off⟩, w.setRow q.b ((arr.toList.take (q.d + (off + len * P.cellsOf e)) ++ concL p ((l2.drop off2).take (n * P.cellsOf e)) ++ arr.toList.drop (q.d + (off + len * P.cellsOf e) + ((l2.drop off2).take (n * P.cellsOf e)).length)).toArray), .inl ?_, ?_⟩
                · simp only [Sem.run_bind, hrun, Result.andThen_ok, Sem.run_pure, hfin]
                · rw [set_upd]
                  rw [hll, hnl] at hgain
                  rw [hll]
                  refine ⟨hgain.2, ?_, hwr.fr, newPl_mem (.inr ⟨m, q, j1, rfl⟩)⟩
                  rw [hnl, show vs + (off + len * P.cellsOf e) = vs + off + len * P.cellsOf e by omega] at *
                  exact hgain.1
              · -- a new block
                obtain ⟨zv, z1, z2, z3, z4, i', hi', hiz⟩ := zeroOf_ok hz p st.h.get
                rw [hi] at hi'; injection hi' with hi'; subst hi'
                have hprod : (len + n) * i.bytes ≤ 1000000 * 1000000 := Nat.mul_le_mul hnb (by rw [hib]; exact hby)
                have hrun := run_append_grow (P := P) w t ty e i zv hd hi hiz ⟨q.b, q.d + off, none⟩ len ((q.e - off) / P.cellsOf e) (concL p ((l.drop off).take (len * P.cellsOf e))) (by rw [concL_length, hol, his]) holds
                  ⟨q2.b, q2.d + off2, none⟩ n ((q2.e - off2) / esz2) (concL p ((l2.drop off2).take (n * P.cellsOf e))) (by rw [concL_length, hnl, his]) hnews (by omega) (by omega) (growslice_fits (by omega) (by omega))
                have hge := grownCap_ge w (len + n) ((q.e - off) / P.cellsOf e) e
                have hzz : zv.cells.size = P.cellsOf e := by rw [z2]; simp [concL_length, hzl]
                generalize hcp : grownCap w (len + n) ((q.e - off) / P.cellsOf e) e = cp at *
                have hasz : ((concL p ((l.drop off).take (len * P.cellsOf e))).toArray ++ (concL p ((l2.drop off2).take (n * P.cellsOf e))).toArray ++ Builtin.zeroCells zv.cells (cp - (len + n))).size = cp * P.cellsOf e := by
                  rw [Array.size_append, Array.size_append, size_zeroCells, hzz, List.size_toArray, List.size_toArray, concL_length, concL_length, hol, hnl, ← Nat.add_mul, ← Nat.add_mul]
                  congr 1
                  omega
                have hK := ((H.kill hc j1 j2 (vs + off + len * P.cellsOf e) (vs + off + len * P.cellsOf e + n * P.cellsOf e)).drew (w.drawn + 1)).waste (.cells ((concL p ((l.drop off).take (len * P.cellsOf e))).toArray ++ (concL p ((l2.drop off2).take (n * P.cellsOf e))).toArray ++ Builtin.zeroCells zv.cells (cp - (len + n))) e)
                have hgain := hK.gain (upd_self _ _ _) ⟨w.heap.size, 0, cp * P.cellsOf e⟩ (vs + off) ((l.drop off).take (len * P.cellsOf e) ++ (l2.drop off2).take (n * P.cellsOf e)) (heap_alloc_new { w with drawn := w.drawn + 1 } _) (by rw [hasz]; simp) (by rw [hll]; exact Nat.mul_le_mul_right _ hge) H.size
                  (WFL.grow (grow_upd fun C hC => by rw [hc] at hC; injection hC with hC; subst hC; simp only [exts, (killMs_told _ _ ms).exts]; exact List.prefix_refl _) _ hwfa) hca
                  (fun j v hj => by
                    simp only [Nat.zero_add]
                    have hjl := (List.getElem?_eq_some_iff.1 hj).1
                    rw [hll, Nat.add_mul] at hjl
                    rw [Array.getElem?_append_left (by rw [Array.size_append, List.size_toArray, List.size_toArray, concL_length, concL_length, hol, hnl]; exact hjl)]
                    have e3 : (concL p ((l.drop off).take (len * P.cellsOf e))).toArray ++ (concL p ((l2.drop off2).take (n * P.cellsOf e))).toArray = (concL p ((l.drop off).take (len * P.cellsOf e) ++ (l2.drop off2).take (n * P.cellsOf e))).toArray := by
                      rw [concL_eq, concL_eq, concL_eq, List.map_append]
                      simp
                    rw [e3]
                    exact rowHolds _ j v hj)
                  (.inl fun c' m' x hx e4 => by have := H.lt c' m' x hx; simp only at e4; omega)
                  (fun m' e' vs' cs' q' hm' hq' hb' => by have := H.lt c m' q' hq'; simp only at hb'; omega)
                rw [upd_upd, killMs_length] at hgain
                have hfin : conc (plMem p c ms.length ⟨w.heap.size, 0, cp * P.cellsOf e⟩) (.sl c ms.length 0 (len + n) (P.cellsOf e)) = .slice (some ⟨w.heap.size, 0, none⟩) (len + n) cp := by
                  simp only [conc, plMem, and_self, if_true, Nat.add_zero, Nat.sub_zero]
                  rw [Nat.mul_div_cancel _ (by omega)]
                refine ⟨plMem p c ms.length ⟨w.heap.size, 0, cp * P.cellsOf e⟩, World.alloc { w with drawn := w.drawn + 1 } (.cells ((concL p ((l.drop off).take (len * P.cellsOf e))).toArray ++ (concL p ((l2.drop off2).take (n * P.cellsOf e))).toArray ++ Builtin.zeroCells zv.cells (cp - (len + n))) e), .inl ?_, ?_⟩
                · simp only [Sem.run_bind, hrun, Result.andThen_ok, Sem.run_pure, hfin]
                  rfl
                · rw [set_upd]
                  refine ⟨hgain.2, ?_, ⟨by simp, fun b hb _ => ?_⟩, newPl_mem (.inl (Nat.le_refl _))⟩
                  · exact hgain.1
                  · exact alloc_keep { w with drawn := w.drawn + 1 } _ hb
        · cases h
      · cases h
    · cases h
  · cases h

end
end Go.Proofs.Ytmjnbdkjekdkgaa
