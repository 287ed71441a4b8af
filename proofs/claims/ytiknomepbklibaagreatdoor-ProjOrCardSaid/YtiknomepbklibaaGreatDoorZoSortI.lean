/-
  Calls that write one row of numbers anew: a rule of the reckoner. slices.Sort, slices.Compact by it.
-/
import Derived.Test.YtiknomepbklibaaGreatDoorZoSy2
import Derived.Test.YtiknomepbklibaaGreatDoorZoPoolL
namespace Go.Proofs.YtiknomepbklibaaGreatDoor
open Go Go.RowKit Go.Shelf Go.Sort
set_option linter.unusedVariables false

/-- The numbers of cells. -/
def intsOf : List AV → Option (List Int)
  | [] => some []
  | .int .i64 s :: l => (intsOf l).map (s :: ·)
  | _ :: _ => none
def zAV (z : Int) : AV := .int .i64 z
theorem zAV_conc (p : Pls) (z : Int) : conc p (zAV z) = Value.int .i64 z := rfl
theorem intsOf_map : ∀ zs : List Int, intsOf (zs.map zAV) = some zs
 | [] => rfl
 | z :: zs => by
  show (intsOf (zs.map zAV)).map (z :: ·) = _
  rw [intsOf_map zs]; rfl
theorem intsOf_eq {l : List AV} {zs : List Int} (h : intsOf l = some zs) : l = zs.map zAV := by
 induction l generalizing zs with
 | nil => injection h with h; subst h; rfl
 | cons a l ih =>
  unfold intsOf at h
  split at h
  ·rename_i h1; cases h1
  ·rename_i s l' h1
   injection h1 with h1 h2
   subst h1 h2
   cases hl : intsOf l with
   | none => rw [hl] at h; cases h
   | some zl =>
    rw [hl] at h
    injection h with h
    subst h
    rw [List.map_cons, ← ih hl]; rfl
  ·cases h
theorem intsOf_get {l : List AV} {zs : List Int} (h : intsOf l = some zs) : zs.length = l.length ∧ ∀ (p : Pls) (j : Nat) (z : Int), zs[j]? = some z → ∃ a, l[j]? = some a ∧ conc p a = Value.int .i64 z := by
 rw [intsOf_eq h]
 exact ⟨by simp, fun p j z hj => ⟨zAV z, by rw [List.getElem?_map, hj]; rfl, rfl⟩⟩
def deadMz (ms : List (Nat × Nat × Option (List AV))) : List (Nat × Nat × Option (List AV)) := ms.map fun x => (x.1, x.2.1, none)
def newMz (ms : List (Nat × Nat × Option (List AV))) (m e vs : Nat) (l : List AV) : List (Nat × Nat × Option (List AV)) := (deadMz ms).set m (e, vs, some l)
theorem newMz_get {ms : List (Nat × Nat × Option (List AV))} {m e vs : Nat} {l : List AV} {cs0 : Option (List AV)} (h : ms[m]? = some (e, vs, cs0)) : Told ms (newMz ms m e vs l) ∧ (newMz ms m e vs l)[m]? = some (e, vs, some l) ∧ ∀ k e' vs' l', (newMz ms m e vs l)[k]? = some (e', vs', some l') → k = m ∧ e' = e ∧ l' = l := by
 have hlt := (List.getElem?_eq_some_iff.1 h).1
 have hself : (newMz ms m e vs l)[m]? = some (e, vs, some l) := by
  unfold newMz; rw [List.getElem?_set_self (by simp [deadMz, hlt])]
 have hoth : ∀ k, k ≠ m → (newMz ms m e vs l)[k]? = (ms[k]?).map fun x => (x.1, x.2.1, none) := fun k hk => by
  unfold newMz; rw [List.getElem?_set_ne (fun e => hk e.symm), deadMz, List.getElem?_map]
 refine ⟨⟨by simp [newMz, deadMz], fun k e' vs' cs hk => ?_⟩, hself, fun k e' vs' l' hk => ?_⟩
 ·by_cases hkm : k = m
  ·subst hkm
   rw [hself] at hk
   injection hk with hk; injection hk with h1 hk; injection hk with h2 hk
   subst h1 h2
   exact ⟨_, h⟩
  ·rw [hoth k hkm] at hk
   cases hmk : ms[k]? with
   | none => rw [hmk] at hk; cases hk
   | some x =>
    rw [hmk] at hk
    obtain ⟨a, b, c⟩ := x
    injection hk with hk; injection hk with h1 hk; injection hk with h2 hk
    subst h1 h2
    exact ⟨_, rfl⟩
 ·by_cases hkm : k = m
  ·subst hkm
   rw [hself] at hk
   injection hk with hk; injection hk with h1 hk; injection hk with h2 hk; injection hk with hk
   exact ⟨rfl, h1.symm, hk.symm⟩
  ·rw [hoth k hkm] at hk
   cases hmk : ms[k]? with
   | none => rw [hmk] at hk; cases hk
   | some x =>
    rw [hmk] at hk
    injection hk with hk; injection hk with h1 hk; injection hk with h2 hk
    cases hk
/-- A call that writes a row of texts anew. -/
noncomputable def sumPutZ (F : List Int → List Int) (V : Nat → Nat → List Int → AV) (V0 : AV → AV) : List AV → St → Option (AV × St)
  | [.sl c m 0 len 1], st => if len = 0 then some (V0 (.sl c m 0 0 1), st) else match st.h.get c with
    | some (.row false ms) => match ms[m]? with
      | some (e, vs, some l) => if l.length = len ∧ 0 < len ∧ len ≤ 1000000 then match intsOf l with
          | some zs => some (V c m zs, ⟨st.n, st.h.set c (.row false (newMz ms m e vs ((F zs).map zAV)))⟩)
          | none => none
        else none
      | _ => none
    | _ => none
  | [.nils], st => some (V0 .nils, st)
  | _, _ => none
theorem sumPutZ_ok {P : Program} {G : Env} {f : FuncId} {F : List Int → List Int} {V : Nat → Nat → List Int → AV} {V0 : AV → AV} {R : Option Addr → Nat → List Int → Value} {R0 : Value → Value} (hr : Real P f) (hF : ∀ zs, (F zs).length = zs.length)
  (hV : ∀ (p : Pls) (h : Hp) c m zs q C e, zs ≠ [] → p c m = some q → h c = some C → (exts C)[m]? = some e → zs.length ≤ e → conc p (V c m zs) = R (some ⟨q.b, q.d, none⟩) q.e zs ∧ WF h (V c m zs)) (hV0 : ∀ (p : Pls) (h : Hp) (ks : AV), WF h ks → conc p (V0 ks) = R0 (conc p ks) ∧ WF h (V0 ks))
  (hC : ∀ (b o cap : Nat) (zs : List Int) (w : World), Holds (Value.int .i64) w b o zs.toArray → b < w.heap.size → zs.length ≤ 1000000 → zs.length ≤ cap → zs ≠ [] → Calls P f #[.slice (some ⟨b, o, none⟩) zs.length cap] w fun e w' => e = .returned (R (some ⟨b, o, none⟩) cap zs) ∧ ∃ n os, w' = grow (putRow (Value.int .i64) (Sort.ahead w n) b o (F zs).toArray) os)
  (hC0 : ∀ (a : Option Addr) (cap : Nat) (w : World), Calls P f #[.slice a 0 cap] w fun e w' => e = .returned (R0 (.slice a 0 cap)) ∧ w' = w) : SumOk P G f (sumPutZ F V V0) := by
 intro args st v st' hs hf ha
 unfold sumPutZ at hs
 split at hs
 ·rename_i c m len
  by_cases hl0 : len = 0
  ·rw [if_pos hl0] at hs
   injection hs with hs
   injection hs with e1 e2
   subst e1 e2 hl0
   have hw : WF st.h.get (.sl c m 0 0 1) := ha.1
   refine ⟨hr, fun w0 p w H hG => ⟨Ab.refl _, ?_⟩⟩
   obtain ⟨C, e, g1, g2, _, _⟩ := hw
   obtain ⟨q, hq⟩ := H.cov c C g1 m (List.getElem?_eq_some_iff.1 g2).1
   have hcs : conc p (.sl c m 0 0 1) = .slice (some ⟨q.b, q.d + 0, none⟩) 0 ((q.e - 0) / 1) := by simp only [conc, hq]
   have hv := hV0 p st.h.get (.sl c m 0 0 1) ha.1
   show Calls P f #[conc p (.sl c m 0 0 1)] w _
   rw [hcs] at hv ⊢
   refine (hC0 _ _ w).mono fun e w' => ?_
   rintro ⟨rfl, rfl⟩
   exact ⟨p, by rw [hv.1], .refl H, hv.2⟩
  rw [if_neg hl0] at hs
  split at hs
  ·rename_i ms hc
   split at hs
   ·rename_i e vs l hm
    split at hs
    ·rename_i hcond
     obtain ⟨hlen, h0, h1M⟩ := hcond
     split at hs
     ·rename_i zs hzs
      injection hs with hs
      injection hs with e1 e2
      subst e1 e2
      obtain ⟨hzl, hzg⟩ := intsOf_get hzs
      have hzn : zs ≠ [] := by intro e; subst e; simp at hzl; omega
      obtain ⟨hT, hself, honly⟩ := newMz_get (l := (F zs).map zAV) hm
      have hexts : exts (.row false (newMz ms m e vs ((F zs).map zAV))) = exts (.row false ms) := hT.exts
      have hAb : Ab st ⟨st.n, st.h.set c (.row false (newMz ms m e vs ((F zs).map zAV)))⟩ := ab_set hc (by rw [hexts]; exact List.prefix_refl _)
      refine ⟨hr, fun w0 p w H hG => ⟨hAb, ?_⟩⟩
      have hR := H.cls c _ hc
      obtain ⟨q, arr, el, g1, g2, g3, g4, g5, g6⟩ := hR.mem m e vs (some l) hm
      obtain ⟨k1, k2⟩ := g6 l rfl
      have hb := g2.own
      have hblt := (Array.getElem?_eq_some_iff.1 hb).1
      have hH : Holds (Value.int .i64) w q.b q.d zs.toArray := by
       intro j hj
       have hj' : j < zs.length := by simpa using hj
       refine ⟨?_, by simp [World.frozen?, hb]⟩
       obtain ⟨a, ha1, ha2⟩ := hzg p j _ (List.getElem?_eq_getElem hj')
       obtain ⟨j1, _, _⟩ := k2 j a ha1
       simp only [World.cell?, hb]
       simp only [Option.isSome_none, Bool.false_eq_true, if_false]
       rw [j1, ha2]
       simp [hj']
      have hargs : (concL p [AV.sl c m 0 len 1]).toArray = #[.slice (some ⟨q.b, q.d, none⟩) zs.length q.e] := by
       show #[conc p (AV.sl c m 0 len 1)] = _
       simp only [conc, g1]
       rw [hzl, hlen]
       simp
      rw [hargs]
      refine (hC q.b q.d q.e zs w hH hblt (by omega) (by omega) hzn).mono fun e' w' => ?_
      rintro ⟨rfl, n, os, rfl⟩
      have hv := hV p (st.h.set c (.row false (newMz ms m e vs ((F zs).map zAV)))).get c m zs q (.row false (newMz ms m e vs ((F zs).map zAV))) e hzn g1 (by rw [set_upd]; exact upd_self _ _ _) (by rw [hexts]; simp [exts, List.getElem?_map, hm]) (by omega)
      refine ⟨p, by rw [hv.1], ?_, hv.2⟩
      have S1 := H.over hc hT hb (arr' := putCells (Value.int .i64) q.d (F zs).toArray arr) (by simp [putCells]) g1 rfl (fun k e1 vs1 l1 q1 hk hq1 => by
       obtain ⟨rfl, rfl, rfl⟩ := honly k e1 vs1 l1 hk
       rw [g1] at hq1; injection hq1 with hq1; subst hq1
       refine ⟨fun _ => ⟨by rw [List.length_map, hF]; omega, fun j a hj => ?_⟩, fun hne => absurd rfl hne⟩
       rw [List.getElem?_map] at hj
       cases hz : (F zs)[j]? with
       | none => rw [hz] at hj; cases hj
       | some z =>
        rw [hz] at hj
        injection hj with hj
        subst hj
        have hjl := (List.getElem?_eq_some_iff.1 hz).1
        have hjl' : j < zs.length := by rw [← hF]; exact hjl
        refine ⟨?_, ?_, rfl⟩
        ·rw [zAV_conc]
         have : q.d + j < arr.size := by omega
         have hzj := (List.getElem?_eq_some_iff.1 hz).2
         simp [putCells, this, hjl, hzj]
        ·trivial)
      rw [set_upd]
      have hset : ∀ k, (putRow (Value.int .i64) (Sort.ahead w n) q.b q.d (F zs).toArray).heap[k]? = (w.setRow q.b (putCells (Value.int .i64) q.d (F zs).toArray arr)).heap[k]? := fun k => by
       by_cases hk : k = q.b
       ·subst hk
        rw [setRow_heap w q.b arr _ el (0, 0) hb]
        show (w.heap.modify q.b (onCells (putCells (Value.int .i64) q.d (F zs).toArray)))[q.b]? = _
        rw [Array.getElem?_modify, if_pos rfl, hb]
        rfl
       ·rw [setRow_other w q.b k _ hk]
        show (w.heap.modify q.b (onCells (putCells (Value.int .i64) q.d (F zs).toArray)))[k]? = _
        rw [Array.getElem?_modify, if_neg (fun e : q.b = k => hk e.symm)]
      refine S1.trans (S1.hr.belowStep ⟨rfl, rfl, rfl, ?_, fun k hk => ?_⟩)
      ·simp [World.setRow, putRow, mapBlock, Sort.ahead, grow]
      ·rw [heap_grow_old _ _ (by simpa [World.setRow, putRow, mapBlock, Sort.ahead] using hk), hset]
     ·cases hs
    ·cases hs
   ·cases hs
  ·cases hs
 ·injection hs with hs
  injection hs with e1 e2
  subst e1 e2
  refine ⟨hr, fun w0 p w H hG => ⟨Ab.refl _, (hC0 none 0 w).mono fun e w' => ?_⟩⟩
  rintro ⟨rfl, rfl⟩
  exact ⟨p, by rw [(hV0 p st.h.get .nils trivial).1]; rfl, .refl H, (hV0 p st.h.get .nils trivial).2⟩
 ·cases hs
def compZ (zs : List Int) : List Int := Lib.compact zs ++ List.replicate (zs.length - (Lib.compact zs).length) 0
def sortZV (_ _ : Nat) (_ : List Int) : AV := .tup []
def compZV (c m : Nat) (zs : List Int) : AV := .sl c m 0 (Lib.compact zs).length 1
theorem compactI_le (zs : List Int) : (Lib.compact zs).length ≤ zs.length := by
 unfold Lib.compact Lib.compactUpTo
 rw [List.length_map]
 refine Nat.le_trans (List.length_filter_le _ _) ?_
 simp
theorem sortI_sum {G : Env} : SumOk Tryz.prog G 66 (sumPutZ orderZ sortZV fun _ => .tup []) := by
 refine sumPutZ_ok (R := fun _ _ _ => .tuple #[]) (R0 := fun _ => .tuple #[]) ⟨_, Tryz.func66, rfl, by decide⟩ (fun zs => List.length_mergeSort _) (fun p h c m zs q C e _ _ _ _ _ => ⟨rfl, trivial⟩) (fun p h ks _ => ⟨rfl, trivial⟩) (fun b o cap zs w hH hb hsz hcap hn => ?_) (fun a cap w => ?_)
 ·exact Any.slices_Sort_int lays189 b o cap zs w hH hb (by omega)
 ·exact Any.slices_Sort_int_none lays189 a cap w
theorem compactI_sum {G : Env} : SumOk Tryz.prog G 67 (sumPutZ compZ compZV id) := by
 refine sumPutZ_ok (R := fun a cap zs => .slice a (Lib.compact zs).length cap) (R0 := id) ⟨_, Tryz.func67, rfl, by decide⟩ (fun zs => ?_) (fun p h c m zs q C e hn h1 h2 h3 h4 => ?_) (fun p h ks hw => ⟨rfl, hw⟩) (fun b o cap zs w hH hb hsz hcap hn => ?_) (fun a cap w => ?_)
 ·have := compactI_le zs
  simp [compZ]; omega
 ·have := compactI_le zs
  refine ⟨?_, ?_⟩
  ·unfold compZV
   simp only [conc, h1]
   simp
  ·unfold compZV
   exact ⟨C, e, h2, h3, by decide, by omega⟩
 ·refine (Any.slices_Compact_int lays20 b o cap zs w hH (by omega) hcap).mono fun e w' => ?_
  rintro ⟨rfl, n, rfl⟩
  exact ⟨rfl, n, #[], by rw [grow_empty]; rfl⟩
 ·exact Any.slices_Compact_int_empty lays20 a cap w
/-- Such a call by the rules. -/
theorem ev_sumPutZ {P : Program} {G : Env} {f : FuncId} {F : List Int → List Int} {V : Nat → Nat → List Int → AV} {V0 : AV → AV} {st : St} (hs : G.s f = some (sumPutZ F V V0)) (hf : Fresh st) {c m : Nat} {l : List AV} {zs : List Int} (hr : Row1 st.h.get c m l) (hz : intsOf l = some zs) (h0 : zs ≠ []) (hb : zs.length ≤ 1000000) (hF : (F zs).length = zs.length) :
    ∃ v st', Ev P G f [.sl c m 0 zs.length 1] st v st' ∧ v = V c m zs ∧ Row1 st'.h.get c m ((F zs).map zAV) ∧ Chg [c] st st' := by
  have hlt := hr.lt hf
  obtain ⟨vs, ms, h1, h2⟩ := hr
  have hl := (intsOf_get hz).1
  have hp : 0 < zs.length := List.length_pos_iff.2 h0
  obtain ⟨hT, hself, _⟩ := newMz_get (l := (F zs).map zAV) h2
  have e : sumPutZ F V V0 [.sl c m 0 zs.length 1] st = some (V c m zs, ⟨st.n, st.h.set c (.row false (newMz ms m l.length vs ((F zs).map zAV)))⟩) := by
    unfold sumPutZ
    show (if zs.length = 0 then _ else _) = _
    rw [if_neg (by omega)]
    simp only [h1, h2]
    rw [if_pos ⟨hl.symm, hp, hb⟩]
    simp only [hz]
  refine ⟨V c m zs, ⟨st.n, st.h.set c (.row false (newMz ms m l.length vs ((F zs).map zAV)))⟩, ⟨0, 1, ?_⟩, rfl, ⟨vs, _, by rw [set_upd]; exact upd_self _ _ _, by rw [hself, List.length_map, hF, hl]⟩, ⟨fun k hk => ?_, Nat.le_refl _, fun k hk hX => ?_⟩⟩
  · show (Option.rec _ (fun sm => sm [.sl c m 0 zs.length 1] st) (G.s f) : Option (AV × St)) = _
    rw [hs]
    exact e
  · have hk : st.n ≤ k := hk
    rw [set_upd, upd_ne _ _ (by omega)]
    exact hf k hk
  · rw [set_upd, upd_ne _ _ (by simpa using hX)]
theorem ev_sumPutZ0 {P : Program} {G : Env} {f : FuncId} {F : List Int → List Int} {V : Nat → Nat → List Int → AV} {V0 : AV → AV} {st : St} (hs : G.s f = some (sumPutZ F V V0)) (hf : Fresh st) : Ev P G f [.nils] st (V0 .nils) st := ⟨0, 1, by
 show (Option.rec _ (fun sm => sm [.nils] st) (G.s f) : Option (AV × St)) = _
 rw [hs]; rfl⟩
theorem ev_sumPutZ1 {P : Program} {G : Env} {f : FuncId} {F : List Int → List Int} {V : Nat → Nat → List Int → AV} {V0 : AV → AV} {st : St} (hs : G.s f = some (sumPutZ F V V0)) (hf : Fresh st) (c m : Nat) : Ev P G f [.sl c m 0 0 1] st (V0 (.sl c m 0 0 1)) st := ⟨0, 1, by
 show (Option.rec _ (fun sm => sm [.sl c m 0 0 1] st) (G.s f) : Option (AV × St)) = _
 rw [hs]
 show sumPutZ F V V0 [.sl c m 0 0 1] st = _
 rfl⟩
end Go.Proofs.YtiknomepbklibaaGreatDoor
