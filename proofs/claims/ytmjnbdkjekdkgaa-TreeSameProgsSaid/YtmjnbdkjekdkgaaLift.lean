/-
  What a call is handed, as the reckoner has it: numbers, truths, texts, rows and structs of such.
-/
import Derived.Test.YtmjnbdkjekdkgaaSymD
import Derived.WalkKit
namespace Go.Proofs.Ytmjnbdkjekdkgaa
open Go Go.RowKit
set_option linter.unusedVariables false
set_option linter.unusedSimpArgs false

/-- A member's cells. -/
def RowV (h : Hp) (c m : Nat) (l : List AV) : Prop := ∃ ro e vs ms, h c = some (.row ro ms) ∧ ms[m]? = some (e, vs, some l)
def RowLe (h h' : Hp) : Prop := ∀ c m l, RowV h c m l → RowV h' c m l
/-- Cells that are read as data. -/
inductive Rd {H : Type} (P : Program) (h : Hp) : TypeId → List AV → DataW H → Prop
  | bool {t : TypeId} {b : Bool} (ht : P.underlying t = some .bool) : Rd P h t [.bool b] (.lit (.bool b))
  | int {t : TypeId} {k : IntKind} {n : Int} (ht : P.underlying t = some (.int k)) (hw : (Lit.int k n).wf = true) : Rd P h t [.int k n] (.lit (.int k n))
  | str {t : TypeId} {s : ByteArray} (ht : P.underlying t = some .string) (hs : s.size ≤ maxLen) : Rd P h t [.str (textOf s)] (.lit (.string s.data.toList))
  | nil {t e : TypeId} (ht : P.underlying t = some (.slice e)) : Rd P h t [.nils] .nil
  | none {t e : TypeId} {b o : Nat} {s : Option Nat} (ht : P.underlying t = some (.slice e)) : Rd P h t [.sl0 b o s] (.slice [] [])
  | row {t e : TypeId} {c m len : Nat} {cells : List AV} {elems rest : List (DataW H)} (ht : P.underlying t = some (.slice e)) (hz : 0 < P.cellsOf e) (hr : RowV h c m cells) (hl : cells.length = len * P.cellsOf e) (he : elems.length = len) (hm : len ≤ maxLen)
      (hd : ∀ i d, elems[i]? = some d → Rd P h e ((cells.drop (i * P.cellsOf e)).take (P.cellsOf e)) d) : Rd P h t [.sl c m 0 len (P.cellsOf e)] (.slice elems rest)
  | agg {t : TypeId} {fs : Array Field} {as : List AV} {parts : List (DataW H)} (ht : P.underlying t = some (.struct fs)) (hl : as.length = P.cellsOf t) (hp : parts.length = fs.size)
      (hd : ∀ (i : Nat) (f : Field) (d : DataW H), fs[i]? = some f → parts[i]? = some d → Rd P h f.type ((as.drop f.offset).take (P.cellsOf f.type)) d) : Rd P h t as (.agg parts)
theorem Rd.mono {H : Type} {P : Program} {h h' : Hp} (hl : RowLe h h') {t : TypeId} {as : List AV} {d : DataW H} (r : Rd P h t as d) : Rd P h' t as d := by
  induction r with
  | bool ht => exact .bool ht
  | int ht hw => exact .int ht hw
  | str ht hs => exact .str ht hs
  | nil ht => exact .nil ht
  | none ht => exact .none ht
  | row ht hz hr hl' he hm hd ih => exact .row ht hz (hl _ _ _ hr) hl' he hm ih
  | agg ht hl' hp hd ih => exact .agg ht hl' hp ih

abbrev Mbs := List (Pl × List AV)
def plM (ml : Mbs) : Pls := fun c m => if c = 0 then (ml[m]?).map Prod.fst else none
def clsM (ml : Mbs) : Cls := .row true (ml.map fun x => (x.2.length, x.1.d, some x.2))
def hpM (ml : Mbs) : Hp := fun c => if c = 0 then some (clsM ml) else none
theorem plM_at (ml : Mbs) (m : Nat) : plM ml 0 m = (ml[m]?).map Prod.fst := if_pos rfl
theorem plM_le {ml ml' : Mbs} (h : ml <+: ml') : Pls.le (plM ml) (plM ml') := by
  intro c m x hx
  unfold plM at hx ⊢
  split at hx
  · rename_i hc
    rw [if_pos hc]
    cases hm : ml[m]? with
    | none => rw [hm] at hx; cases hx
    | some y => rw [hm] at hx; rw [pre_get h hm]; exact hx
  · cases hx
theorem exts_clsM (ml : Mbs) : exts (clsM ml) = ml.map fun x => x.2.length := by
  simp [exts, clsM, Function.comp_def]
theorem hpM_grow {ml ml' : Mbs} (h : ml <+: ml') : Grow (hpM ml) (hpM ml') := by
  intro c C hc
  unfold hpM at hc ⊢
  split at hc
  · rename_i h0
    injection hc with hc
    subst hc
    refine ⟨_, if_pos h0, ?_⟩
    rw [exts_clsM, exts_clsM]
    exact h.map _
  · cases hc
theorem plM_cov (ml : Mbs) : Cov (plM ml) (hpM ml) := by
  intro c C hc m hm
  unfold hpM at hc
  split at hc
  · rename_i h0
    injection hc with hc
    subst hc h0
    rw [exts_clsM, List.length_map] at hm
    exact ⟨_, by rw [plM_at, List.getElem?_eq_getElem hm]; rfl⟩
  · cases hc
theorem rowM_le {ml ml' : Mbs} (h : ml <+: ml') : RowLe (hpM ml) (hpM ml') := by
  rintro c m l ⟨ro, e, vs, ms, h1, h2⟩
  unfold hpM at h1
  split at h1
  · rename_i h0
    injection h1 with h1
    unfold clsM at h1
    injection h1 with h1 h3
    subst h1 h3
    refine ⟨true, e, vs, _, by unfold hpM; rw [if_pos h0]; rfl, pre_get (h.map _) h2⟩
  · cases h1
theorem concM {ml ml' : Mbs} (h : ml <+: ml') {v : AV} (hv : WF (hpM ml) v) : conc (plM ml') v = conc (plM ml) v := conc_le (plM_cov ml) (plM_le h) v hv
section
variable {P : Program} {H : Type} {enc : TypeId × Value → H} {W : World}
/-- Members are what lies there. -/
def GoodM (W : World) (ml : Mbs) : Prop := ∀ (m : Nat) (q : Pl) (l : List AV), ml[m]? = some (q, l) → ∃ (arr : Array Value) (el : TypeId) (fr : Nat × Nat), W.heap[q.b]? = some (.cells arr el fr) ∧ q.d + q.e ≤ arr.size ∧ l.length ≤ q.e ∧
  ∀ j v, l[j]? = some v → arr[q.d + j]? = some (conc (plM ml) v) ∧ WF (hpM ml) v ∧ isCell v = true
theorem GoodM.nil : GoodM W [] := fun m q l h => by simp at h
theorem GoodM.push {ml : Mbs} (h : GoodM W ml) {q : Pl} {l : List AV} {arr : Array Value} {el : TypeId} {fr : Nat × Nat} (hb : W.heap[q.b]? = some (.cells arr el fr)) (hs : q.d + q.e ≤ arr.size) (hl : l.length ≤ q.e)
    (hc : ∀ j v, l[j]? = some v → arr[q.d + j]? = some (conc (plM ml) v) ∧ WF (hpM ml) v ∧ isCell v = true) : GoodM W (ml ++ [(q, l)]) := by
  have hp : ml <+: ml ++ [(q, l)] := List.prefix_append _ _
  have key : ∀ v, WF (hpM ml) v → conc (plM (ml ++ [(q, l)])) v = conc (plM ml) v ∧ WF (hpM (ml ++ [(q, l)])) v := fun v hv => ⟨concM hp hv, WF.grow (hpM_grow hp) v hv⟩
  intro m q' l' hm
  by_cases hlt : m < ml.length
  · rw [List.getElem?_append_left hlt] at hm
    obtain ⟨arr', el', fr', h1, h2, h3, h4⟩ := h m q' l' hm
    refine ⟨arr', el', fr', h1, h2, h3, fun j v hj => ?_⟩
    obtain ⟨k1, k2, k3⟩ := h4 j v hj
    obtain ⟨e1, e2⟩ := key v k2
    exact ⟨by rw [e1]; exact k1, e2, k3⟩
  · rw [List.getElem?_append_right (by omega)] at hm
    have hm0 : m - ml.length = 0 := by
      cases hx : m - ml.length with
      | zero => rfl
      | succ n => rw [hx] at hm; simp at hm
    rw [hm0] at hm
    simp at hm
    obtain ⟨rfl, rfl⟩ := hm
    refine ⟨arr, el, fr, hb, hs, hl, fun j v hj => ?_⟩
    obtain ⟨k1, k2, k3⟩ := hc j v hj
    obtain ⟨e1, e2⟩ := key v k2
    exact ⟨by rw [e1]; exact k1, e2, k3⟩

/-- What the members say at the start of a call. -/
theorem GoodM.hr {ml : Mbs} (h : GoodM W ml) : HR W (plM ml) (hpM ml) W := by
  have hdom : ∀ c m x, plM ml c m = some x → c = 0 ∧ ∃ l, ml[m]? = some (x, l) := by
    intro c m x hx
    unfold plM at hx
    split at hx
    · rename_i hc
      cases hm : ml[m]? with
      | none => rw [hm] at hx; cases hx
      | some y => rw [hm] at hx; injection hx with hx; subst hx; exact ⟨hc, y.2, rfl⟩
    · cases hx
  refine ⟨rfl, rfl, rfl, Nat.le_refl _, fun _ _ => rfl, fun c m x hx => ?_, fun c m x hx => ?_, fun c m x c' m' x' hx hx' _ => ?_, fun c C hC => ?_⟩
  · obtain ⟨rfl, l, hm⟩ := hdom c m x hx
    exact ⟨clsM ml, if_pos rfl, by rw [exts_clsM, List.length_map]; exact (List.getElem?_eq_some_iff.1 hm).1⟩
  · obtain ⟨rfl, l, hm⟩ := hdom c m x hx
    obtain ⟨arr, el, fr, h1, _⟩ := h m x l hm
    exact (Array.getElem?_eq_some_iff.1 h1).1
  · rw [(hdom c m x hx).1, (hdom c' m' x' hx').1]
  · unfold hpM at hC
    split at hC
    · rename_i hc0
      injection hC with hC
      subst hC hc0
      refine ⟨fun m e vs cs hm => ?_, fun m e vs cs m' e' vs' cs' q q' hm hm' hq hq' hb => ?_⟩
      · rw [List.getElem?_map] at hm
        cases hx : ml[m]? with
        | none => rw [hx] at hm; cases hm
        | some y =>
          rw [hx] at hm
          simp only [Option.map_some, Option.some.injEq, Prod.mk.injEq] at hm
          obtain ⟨rfl, rfl, rfl⟩ := hm
          obtain ⟨q, l⟩ := y
          obtain ⟨arr, el, fr, h1, h2, h3, h4⟩ := h m q l hx
          refine ⟨q, arr, el, by rw [plM_at, hx]; rfl, ⟨fr, h1, fun e => nomatch e⟩, h2, h3, fun e => (nomatch e), fun l' hl' => ?_⟩
          injection hl' with hl'
          subst hl'
          exact ⟨rfl, h4⟩
      · rw [List.getElem?_map] at hm hm'
        rw [plM_at] at hq hq'
        cases hx : ml[m]? with
        | none => rw [hx] at hq; cases hq
        | some y =>
          cases hx' : ml[m']? with
          | none => rw [hx'] at hq'; cases hq'
          | some y' =>
            rw [hx] at hm hq
            rw [hx'] at hm' hq'
            simp only [Option.map_some, Option.some.injEq, Prod.mk.injEq] at hm hm' hq hq'
            obtain ⟨_, rfl, _⟩ := hm
            obtain ⟨_, rfl, _⟩ := hm'
            subst hq hq'
            omega
    · cases hC

/-- Fields that lie one behind the other. -/
def tilesF (P : Program) : List Field → Nat → Option Nat
  | [], n => some n
  | f :: fs, n => if f.offset = n then tilesF P fs (n + P.cellsOf f.type) else none
/-- Types that are read whole: numbers, truths, texts; rows and structs of such. -/
def plainT (P : Program) (S : List TypeId) (t : TypeId) : Bool := match P.underlying t with
  | some .bool => true
  | some (.int _) => true
  | some .string => true
  | some (.slice e) => S.contains e && decide (0 < P.cellsOf e)
  | some (.struct fs) => fs.toList.all (fun f => S.contains f.type) && decide (tilesF P fs.toList 0 = some (P.cellsOf t))
  | _ => false
def plainSet (P : Program) (S : List TypeId) : Bool := S.all (plainT P S)

/-- What is lifted. -/
def Lifts (P : Program) (W : World) (ml : Mbs) (cs : List Value) (R : Mbs → List AV → Prop) : Prop := ∃ ml' as, ml <+: ml' ∧ GoodM W ml' ∧ as.map (conc (plM ml')) = cs ∧ WFL (hpM ml') as ∧ (∀ v ∈ as, isCell v = true) ∧ R ml' as
theorem map_concM {ml ml' : Mbs} (h : ml <+: ml') {l : List AV} (hl : WFL (hpM ml) l) : l.map (conc (plM ml')) = l.map (conc (plM ml)) :=
  List.map_congr_left fun v hv => concM h ((WFL_iff _ _).1 hl v hv)
theorem trod_bool' {fuel : Nat} {t : TypeId} {cs : List Value} {d : DataW H} {ps : List MemPlace} (hu : P.underlying t = some .bool) (h : DataW.trod enc P W 0 (fun _ => true) true (fuel + 1) t cs = some (d, ps)) : ∃ b, cs = [.bool b] ∧ d = .lit (.bool b) := by
  unfold DataW.trod at h
  rw [hu] at h
  split at h <;> first | (simp_all; done) | skip
theorem trod_int' {fuel : Nat} {t : TypeId} {cs : List Value} {k : IntKind} {d : DataW H} {ps : List MemPlace} (hu : P.underlying t = some (.int k)) (h : DataW.trod enc P W 0 (fun _ => true) true (fuel + 1) t cs = some (d, ps)) : ∃ n, cs = [.int k n] ∧ (Lit.int k n).wf = true ∧ d = .lit (.int k n) := by
  unfold DataW.trod at h
  rw [hu] at h
  split at h <;> first | (simp_all; done) | skip
theorem trod_str' {fuel : Nat} {t : TypeId} {cs : List Value} {d : DataW H} {ps : List MemPlace} (hu : P.underlying t = some .string) (h : DataW.trod enc P W 0 (fun _ => true) true (fuel + 1) t cs = some (d, ps)) : ∃ s, cs = [.string s] ∧ s.size ≤ maxLen ∧ d = .lit (.string s.data.toList) := by
  unfold DataW.trod at h
  rw [hu] at h
  split at h <;> first | (simp_all; done) | skip
theorem trod_slice' {fuel : Nat} {t e : TypeId} {cs : List Value} {d : DataW H} {ps : List MemPlace} (hu : P.underlying t = some (.slice e)) (h : DataW.trod enc P W 0 (fun _ => true) true (fuel + 1) t cs = some (d, ps)) :
    (cs = [.slice none 0 0] ∧ d = .nil) ∨ ∃ a len cap elems rest, cs = [.slice (some a) len cap] ∧ len ≤ cap ∧ cap ≤ maxLen ∧
      (List.range len).mapM (fun i => (W.cells? 0 (a.add (i * P.cellsOf e)) (P.cellsOf e)).bind (DataW.trod enc P W 0 (fun _ => true) true fuel e)) = some elems ∧
      (List.range (cap - len)).mapM (fun j => (W.cells? 0 (a.add ((len + j) * P.cellsOf e)) (P.cellsOf e)).bind (DataW.trod enc P W 0 (fun _ => true) true fuel e)) = some rest ∧ d = .slice (elems.map (·.1)) (rest.map (·.1)) := by
  unfold DataW.trod at h
  rw [hu] at h
  split at h <;> first | (simp_all; done) | skip
  rename_i e1 a len cap he
  injection he with he
  injection he with he
  subst he
  split at h
  · rename_i hh
    right
    rw [Option.bind_eq_some_iff] at h
    obtain ⟨elems, h1, h⟩ := h
    rw [Option.map_eq_some_iff] at h
    obtain ⟨rest, h2, h⟩ := h
    rw [if_pos rfl] at h2
    injection h with h _
    exact ⟨a, len, cap, elems, rest, rfl, hh.2.1, hh.2.2, h1, h2, h.symm⟩
  · cases h
theorem trod_struct' {fuel : Nat} {t : TypeId} {fs : Array Field} {cs : List Value} {d : DataW H} {ps : List MemPlace} (hu : P.underlying t = some (.struct fs)) (h : DataW.trod enc P W 0 (fun _ => true) true (fuel + 1) t cs = some (d, ps)) :
    cs.length = P.cellsOf t ∧ ∃ xs, fs.toList.mapM (fun f => DataW.trod enc P W 0 (fun _ => true) true fuel f.type ((cs.drop f.offset).take (P.cellsOf f.type))) = some xs ∧ d = .agg (xs.map (·.1)) := by
  unfold DataW.trod at h
  rw [hu] at h
  split at h <;> first | (simp_all; done) | skip
  rename_i fs1 he
  injection he with he
  injection he with he
  subst he
  split at h
  · rename_i hh
    rw [Option.map_eq_some_iff] at h
    obtain ⟨xs, h1, h⟩ := h
    injection h with h _
    exact ⟨hh, xs, h1, h.symm⟩
  · cases h
theorem mapM_some {α β : Type} {f : α → Option β} : ∀ {l : List α} {r : List β}, l.mapM f = some r → r.length = l.length ∧ ∀ (i : Nat) (a : α), l[i]? = some a → ∃ b, r[i]? = some b ∧ f a = some b := by
  intro l
  induction l with
  | nil => intro r h; simp at h; subst h; exact ⟨rfl, fun i a h => by simp at h⟩
  | cons x l ih =>
    intro r h
    rw [List.mapM_cons] at h
    simp only [Option.bind_eq_bind, Option.pure_def, Option.bind_eq_some_iff, Option.some.injEq] at h
    obtain ⟨b, hb, t, ht, h⟩ := h
    subst h
    obtain ⟨h1, h2⟩ := ih ht
    refine ⟨by simp [h1], fun i a hi => ?_⟩
    cases i with
    | zero => simp at hi; subst hi; exact ⟨b, rfl, hb⟩
    | succ i => simpa using h2 i a (by simpa using hi)
theorem addr_add2 (a : Addr) (m n : Nat) : (a.add m).add n = a.add (m + n) := by
  unfold Addr.add
  by_cases hm : m = 0
  · subst hm
    rw [if_pos rfl, Nat.zero_add]
  · rw [if_neg hm, if_neg (show m + n ≠ 0 by omega)]
    by_cases hn : n = 0
    · subst hn; rw [if_pos rfl, Nat.add_zero]
    · rw [if_neg hn]; simp only [Nat.add_assoc]
theorem flatten_get {α : Type} {z : Nat} (hz : 0 < z) : ∀ (css : List (List α)), (∀ c ∈ css, c.length = z) → ∀ j, css.flatten[j]? = (css[j / z]?).bind fun c => c[j % z]? := by
  intro css
  induction css with
  | nil => intro _ j; simp
  | cons c css ih =>
    intro h j
    have hc := h c (List.mem_cons_self ..)
    rw [List.flatten_cons, List.getElem?_append]
    by_cases hj : j < z
    · rw [if_pos (by omega), Nat.div_eq_of_lt hj, Nat.mod_eq_of_lt hj]
      rfl
    · rw [if_neg (by omega), ih (fun c hc => h c (List.mem_cons_of_mem _ hc)), hc]
      have e1 : j / z = (j - z) / z + 1 := by
        conv => lhs; rw [show j = (j - z) + z by omega]
        exact Nat.add_div_right _ hz
      have e2 : j % z = (j - z) % z := by
        conv => lhs; rw [show j = (j - z) + z by omega]
        exact Nat.add_mod_right _ _
      rw [e1, e2]
      rfl
theorem cell_some {a : Addr} {j : Nat} {v : Value} (h : W.cell? (a.add j) = some v) : ∃ arr el fr, W.heap[a.block]? = some (.cells arr el fr) ∧ arr[a.off + j]? = some v ∧ (j = 0 → a.spot = none) := by
  have hb : (a.add j).block = a.block := by unfold Addr.add; split <;> rfl
  have ho : (a.add j).off = a.off + j := by unfold Addr.add; split <;> simp_all
  unfold World.cell? at h
  rw [hb] at h
  split at h
  · rename_i arr el fr hh
    split at h
    · cases h
    · rename_i hs
      rw [ho] at h
      refine ⟨arr, el, fr, hh, h, fun h0 => ?_⟩
      subst h0
      have : a.add 0 = a := if_pos rfl
      rw [this] at hs
      simpa using hs
  · cases h
theorem lift_cells {n : Nat} {a : Addr} {cs : List Value} (h : W.cells? 0 a n = some cs) : cs.length = n ∧ ∀ i, i < n → ∃ v, W.cell? (a.add i) = some v ∧ cs[i]? = some v := by
  unfold World.cells? at h
  rw [if_pos (Nat.zero_le _)] at h
  obtain ⟨h1, h2⟩ := mapM_some h
  rw [List.length_range] at h1
  refine ⟨h1, fun i hi => ?_⟩
  obtain ⟨b, hb, hc⟩ := h2 i i (List.getElem?_range hi)
  exact ⟨b, hc, hb⟩

/-- Elements, one behind the other. -/
theorem lift_row {e : TypeId} {a : Addr} {z fuel : Nat} (ih : ∀ (cs : List Value) (d : DataW H) (ps : List MemPlace) (ml : Mbs), DataW.trod enc P W 0 (fun _ => true) true fuel e cs = some (d, ps) → GoodM W ml → Lifts P W ml cs fun ml' as => Rd P (hpM ml') e as d) :
    ∀ (l : List Nat) (ml : Mbs) (xs : List (DataW H × List MemPlace)), l.mapM (fun i => (W.cells? 0 (a.add (i * z)) z).bind (DataW.trod enc P W 0 (fun _ => true) true fuel e)) = some xs → GoodM W ml →
    ∃ css : List (List Value), css.length = l.length ∧ (∀ (i j : Nat), l[i]? = some j → ∃ cs, css[i]? = some cs ∧ W.cells? 0 (a.add (j * z)) z = some cs) ∧
      Lifts P W ml css.flatten fun ml' as => as.length = l.length * z ∧ ∀ (i : Nat) (d : DataW H × List MemPlace), xs[i]? = some d → Rd P (hpM ml') e ((as.drop (i * z)).take z) d.1 := by
  intro l
  induction l with
  | nil =>
    intro ml xs h hM
    simp at h
    subst h
    exact ⟨[], rfl, fun i j h => (by simp at h), ml, [], List.prefix_refl _, hM, rfl, trivial, fun v h => (by cases h), (by simp), fun i d h => (by simp at h)⟩
  | cons j l ihl =>
    intro ml xs h hM
    rw [List.mapM_cons] at h
    simp only [Option.bind_eq_bind, Option.pure_def, Option.bind_eq_some_iff, Option.some.injEq] at h
    obtain ⟨x, ⟨cs, hcs, hx⟩, t, ht, h⟩ := h
    subst h
    obtain ⟨ml1, as1, p1, g1, c1, w1, i1, r1⟩ := ih cs x.1 x.2 ml hx hM
    obtain ⟨css, k1, k2, ml2, as2, p2, g2, c2, w2, i2, r2, r3⟩ := ihl ml1 t ht g1
    have hcl := (lift_cells hcs).1
    have hl1 : as1.length = z := by rw [← hcl, ← c1, List.length_map]
    refine ⟨cs :: css, by simp [k1], fun i j' hi => ?_, ml2, as1 ++ as2, p1.trans p2, g2, ?_, ?_, fun v hv => ?_, ?_, fun i d hi => ?_⟩
    · cases i with
      | zero => simp at hi; subst hi; exact ⟨cs, rfl, hcs⟩
      | succ i => simpa using k2 i j' (by simpa using hi)
    · rw [List.map_append, List.flatten_cons, map_concM p2 w1, c1, c2]
    · exact (WFL_iff _ _).2 fun v hv => by
        rcases List.mem_append.1 hv with hv | hv
        · exact WF.grow (hpM_grow p2) v ((WFL_iff _ _).1 w1 v hv)
        · exact (WFL_iff _ _).1 w2 v hv
    · rcases List.mem_append.1 hv with hv | hv
      · exact i1 v hv
      · exact i2 v hv
    · rw [List.length_append, hl1, r2, List.length_cons, Nat.succ_mul, Nat.add_comm]
    · cases i with
      | zero =>
        simp at hi
        subst hi
        rw [Nat.zero_mul, List.drop_zero, List.take_append_of_le_length (by omega), List.take_of_length_le (by omega)]
        exact r1.mono (rowM_le p2)
      | succ i =>
        have := r3 i d (by simpa using hi)
        have e1 : (as1 ++ as2).drop z = as2 := by rw [← hl1]; exact List.drop_left
        rw [show (i + 1) * z = z + i * z by rw [Nat.succ_mul, Nat.add_comm], ← List.drop_drop, e1]
        exact this
/-- Fields, one behind the other. -/
theorem lift_fields {fuel n : Nat} {cs : List Value} (hcs : cs.length = n) : ∀ (fs : List Field) (off : Nat) (ml : Mbs) (xs : List (DataW H × List MemPlace)),
    (∀ f ∈ fs, ∀ (cs : List Value) (d : DataW H) (ps : List MemPlace) (ml : Mbs), DataW.trod enc P W 0 (fun _ => true) true fuel f.type cs = some (d, ps) → GoodM W ml → Lifts P W ml cs fun ml' as => Rd P (hpM ml') f.type as d) →
    tilesF P fs off = some n → fs.mapM (fun f => DataW.trod enc P W 0 (fun _ => true) true fuel f.type ((cs.drop f.offset).take (P.cellsOf f.type))) = some xs → GoodM W ml →
    off ≤ n ∧ Lifts P W ml (cs.drop off) fun ml' as => ∀ (i : Nat) (f : Field) (d : DataW H × List MemPlace), fs[i]? = some f → xs[i]? = some d → off ≤ f.offset ∧ Rd P (hpM ml') f.type ((as.drop (f.offset - off)).take (P.cellsOf f.type)) d.1 := by
  intro fs
  induction fs with
  | nil =>
    intro off ml xs _ ht h hM
    injection ht with ht
    subst ht
    refine ⟨Nat.le_refl _, ml, [], List.prefix_refl _, hM, ?_, trivial, fun v h => (by cases h), fun i f d h => (by simp at h)⟩
    rw [List.drop_of_length_le (by omega)]
    rfl
  | cons f fs ihl =>
    intro off ml xs ih ht h hM
    have ht : (if f.offset = off then tilesF P fs (off + P.cellsOf f.type) else none) = some n := ht
    split at ht
    · rename_i ho
      rw [List.mapM_cons] at h
      simp only [Option.bind_eq_bind, Option.pure_def, Option.bind_eq_some_iff, Option.some.injEq] at h
      obtain ⟨x, hx, t, htt, h⟩ := h
      subst h
      obtain ⟨ml1, as1, p1, g1, c1, w1, i1, r1⟩ := ih f (List.mem_cons_self ..) _ x.1 x.2 ml hx hM
      obtain ⟨hle, ml2, as2, p2, g2, c2, w2, i2, r2⟩ := ihl (off + P.cellsOf f.type) ml1 t (fun g hg => ih g (List.mem_cons_of_mem _ hg)) ht htt g1
      have hl1 : as1.length = P.cellsOf f.type := by
        have := congrArg List.length c1
        rw [List.length_map, List.length_take, List.length_drop] at this
        omega
      refine ⟨by omega, ml2, as1 ++ as2, p1.trans p2, g2, ?_, ?_, fun v hv => ?_, fun i g d hi hd => ?_⟩
      · rw [List.map_append, map_concM p2 w1, c1, c2, ho, ← List.drop_drop, List.take_append_drop]
      · exact (WFL_iff _ _).2 fun v hv => by
          rcases List.mem_append.1 hv with hv | hv
          · exact WF.grow (hpM_grow p2) v ((WFL_iff _ _).1 w1 v hv)
          · exact (WFL_iff _ _).1 w2 v hv
      · rcases List.mem_append.1 hv with hv | hv
        · exact i1 v hv
        · exact i2 v hv
      · cases i with
        | zero =>
          simp at hi hd
          subst hi hd
          refine ⟨by omega, ?_⟩
          rw [ho, Nat.sub_self, List.drop_zero, List.take_append_of_le_length (by omega), List.take_of_length_le (by omega)]
          exact r1.mono (rowM_le p2)
        | succ i =>
          obtain ⟨k1, k2⟩ := r2 i g d (by simpa using hi) (by simpa using hd)
          refine ⟨by omega, ?_⟩
          have e1 : (as1 ++ as2).drop (P.cellsOf f.type) = as2 := by rw [← hl1]; exact List.drop_left
          rw [show g.offset - off = P.cellsOf f.type + (g.offset - (off + P.cellsOf f.type)) by omega, ← List.drop_drop, e1]
          exact k2
    · cases ht

theorem lift (S : List TypeId) (hS : plainSet P S = true) (fuel : Nat) : ∀ (t : TypeId) (cs : List Value) (d : DataW H) (ps : List MemPlace) (ml : Mbs), t ∈ S → DataW.trod enc P W 0 (fun _ => true) true fuel t cs = some (d, ps) → GoodM W ml →
    Lifts P W ml cs fun ml' as => Rd P (hpM ml') t as d := by
  induction fuel with
  | zero => intro t cs d ps ml ht h; cases h
  | succ fuel ih =>
    intro t cs d ps ml ht h hM
    have hp : plainT P S t = true := List.all_eq_true.1 hS t ht
    unfold plainT at hp
    split at hp
    · rename_i hu
      obtain ⟨b, rfl, rfl⟩ := trod_bool' hu h
      exact ⟨ml, [.bool b], List.prefix_refl _, hM, rfl, ⟨trivial, trivial⟩, by simp [isCell], .bool hu⟩
    · rename_i k hu
      obtain ⟨n, rfl, hw, rfl⟩ := trod_int' hu h
      exact ⟨ml, [.int k n], List.prefix_refl _, hM, rfl, ⟨trivial, trivial⟩, by simp [isCell], .int hu hw⟩
    · rename_i hu
      obtain ⟨s, rfl, hs, rfl⟩ := trod_str' hu h
      refine ⟨ml, [.str (textOf s)], List.prefix_refl _, hM, ?_, ⟨bytes_textOf s, trivial⟩, by simp [isCell], .str hu hs⟩
      simp only [List.map_cons, List.map_nil, conc, bytesOf_textOf]
    · rename_i e hu
      rw [Bool.and_eq_true, decide_eq_true_iff] at hp
      obtain ⟨he, hz⟩ := hp
      have he : e ∈ S := by simpa using he
      rcases trod_slice' hu h with ⟨rfl, rfl⟩ | ⟨a, len, cap, elems, rest, rfl, hlc, hcap, h1, h2, rfl⟩
      · exact ⟨ml, [.nils], List.prefix_refl _, hM, rfl, ⟨trivial, trivial⟩, by simp [isCell], .nil hu⟩
      · rcases Nat.eq_zero_or_pos cap with rfl | hc0
        · obtain rfl : len = 0 := by omega
          simp at h1 h2
          subst h1 h2
          refine ⟨ml, [.sl0 a.block a.off a.spot], List.prefix_refl _, hM, rfl, ⟨trivial, trivial⟩, by simp [isCell], .none hu⟩
        · obtain ⟨css, k1, k2, ml1, as, p1, g1, c1, w1, i1, r1, r2⟩ := lift_row (z := P.cellsOf e) (fun cs d ps ml => ih e cs d ps ml he) (List.range len) ml elems h1 hM
          -- all cells lie there
          have hall : ∀ i, i < cap → ∃ cs, W.cells? 0 (a.add (i * P.cellsOf e)) (P.cellsOf e) = some cs := by
            intro i hi
            by_cases hil : i < len
            · obtain ⟨b, _, hb⟩ := (mapM_some h1).2 i i (List.getElem?_range hil)
              rw [Option.bind_eq_some_iff] at hb
              obtain ⟨cs, hcs, _⟩ := hb
              exact ⟨cs, hcs⟩
            · obtain ⟨b, _, hb⟩ := (mapM_some h2).2 (i - len) (i - len) (List.getElem?_range (by omega))
              rw [Option.bind_eq_some_iff] at hb
              obtain ⟨cs, hcs, _⟩ := hb
              exact ⟨cs, by rw [show len + (i - len) = i by omega] at hcs; exact hcs⟩
          have hcell : ∀ j, j < cap * P.cellsOf e → ∃ v, W.cell? (a.add j) = some v ∧ ∀ cs, W.cells? 0 (a.add (j / P.cellsOf e * P.cellsOf e)) (P.cellsOf e) = some cs → cs[j % P.cellsOf e]? = some v := by
            intro j hj
            obtain ⟨cs, hcs⟩ := hall (j / P.cellsOf e) (Nat.div_lt_of_lt_mul (by rw [Nat.mul_comm]; exact hj))
            obtain ⟨v, hv1, hv2⟩ := (lift_cells hcs).2 (j % P.cellsOf e) (Nat.mod_lt _ hz)
            refine ⟨v, ?_, fun cs' hcs' => by rw [hcs] at hcs'; injection hcs' with hcs'; subst hcs'; exact hv2⟩
            have hjj : j / P.cellsOf e * P.cellsOf e + j % P.cellsOf e = j := by rw [Nat.mul_comm]; exact Nat.div_add_mod j _
            rw [addr_add2, hjj] at hv1
            exact hv1
          have hcz : 0 < cap * P.cellsOf e := Nat.mul_pos hc0 hz
          obtain ⟨v0, hv0, _⟩ := hcell 0 hcz
          obtain ⟨arr, el, fr, hblk, _, hspot⟩ := cell_some hv0
          have hspot := hspot rfl
          have harr : ∀ j, j < cap * P.cellsOf e → ∃ v, arr[a.off + j]? = some v ∧ ∀ cs, W.cells? 0 (a.add (j / P.cellsOf e * P.cellsOf e)) (P.cellsOf e) = some cs → cs[j % P.cellsOf e]? = some v := by
            intro j hj
            obtain ⟨v, h1, h2⟩ := hcell j hj
            obtain ⟨arr', el', fr', k1, k2, _⟩ := cell_some h1
            rw [hblk] at k1
            injection k1 with k1
            injection k1 with k1 _ _
            subst k1
            exact ⟨v, k2, h2⟩
          have hsz : a.off + cap * P.cellsOf e ≤ arr.size := by
            obtain ⟨v, hv, _⟩ := harr (cap * P.cellsOf e - 1) (by omega)
            have := (Array.getElem?_eq_some_iff.1 hv).1
            omega
          rw [List.length_range] at r1
          have hlz : len * P.cellsOf e ≤ cap * P.cellsOf e := Nat.mul_le_mul_right _ hlc
          have hcl : ∀ c ∈ css, c.length = P.cellsOf e := by
            intro c hc
            obtain ⟨i, hi⟩ := List.getElem?_of_mem hc
            have hil := (List.getElem?_eq_some_iff.1 hi).1
            rw [k1, List.length_range] at hil
            obtain ⟨cs, h3, h4⟩ := k2 i i (List.getElem?_range hil)
            rw [hi] at h3
            injection h3 with h3
            subst h3
            exact (lift_cells h4).1
          have hgood := g1.push (q := ⟨a.block, a.off, cap * P.cellsOf e⟩) (l := as) hblk hsz (by rw [r1]; exact hlz) fun j v hj => by
            have hjl := (List.getElem?_eq_some_iff.1 hj).1
            obtain ⟨v', hv1, hv2⟩ := harr j (by omega)
            have hfl : css.flatten[j]? = some (conc (plM ml1) v) := by rw [← c1, List.getElem?_map, hj]; rfl
            rw [flatten_get hz css hcl] at hfl
            rw [Option.bind_eq_some_iff] at hfl
            obtain ⟨cs, h3, h4⟩ := hfl
            have hdl : j / P.cellsOf e < len := Nat.div_lt_of_lt_mul (by rw [Nat.mul_comm]; omega)
            obtain ⟨cs', h5, h6⟩ := k2 (j / P.cellsOf e) (j / P.cellsOf e) (List.getElem?_range hdl)
            rw [h3] at h5
            injection h5 with h5
            subst h5
            have := hv2 cs h6
            rw [h4] at this
            injection this with this
            rw [this]
            exact ⟨hv1, (WFL_iff _ _).1 w1 v (List.mem_of_getElem? hj), i1 v (List.mem_of_getElem? hj)⟩
          have hpre : ml1 <+: ml1 ++ [(⟨a.block, a.off, cap * P.cellsOf e⟩, as)] := List.prefix_append _ _
          have hat : (ml1 ++ [((⟨a.block, a.off, cap * P.cellsOf e⟩ : Pl), as)])[ml1.length]? = some (⟨a.block, a.off, cap * P.cellsOf e⟩, as) := by simp
          have hrow : RowV (hpM (ml1 ++ [(⟨a.block, a.off, cap * P.cellsOf e⟩, as)])) 0 ml1.length as := ⟨true, _, _, _, rfl, by rw [List.getElem?_map, hat]; rfl⟩
          refine ⟨_, [.sl 0 ml1.length 0 len (P.cellsOf e)], p1.trans hpre, hgood, ?_, ?_, by simp [isCell], ?_⟩
          · simp only [List.map_cons, List.map_nil, conc, plM_at, hat, Option.map_some, Nat.add_zero, Nat.sub_zero, Nat.mul_div_cancel _ hz]
            have : (⟨a.block, a.off, none⟩ : Addr) = a := by cases a; simp_all
            rw [this]
          · refine ⟨⟨_, as.length, rfl, ?_, hz, ?_⟩, trivial⟩
            · rw [exts_clsM, List.getElem?_map, hat]; rfl
            · omega
          · refine .row hu hz hrow r1 (by rw [List.length_map, (mapM_some h1).1, List.length_range]) (Nat.le_trans hlc hcap) fun i d hd => ?_
            rw [List.getElem?_map] at hd
            cases hxi : elems[i]? with
            | none => rw [hxi] at hd; cases hd
            | some y =>
              rw [hxi] at hd
              injection hd with hd
              subst hd
              exact (r2 i y hxi).mono (rowM_le hpre)
    · rename_i fs hu
      rw [Bool.and_eq_true, decide_eq_true_iff] at hp
      obtain ⟨hin, hti⟩ := hp
      obtain ⟨hlen, xs, hx, rfl⟩ := trod_struct' hu h
      obtain ⟨_, ml1, as, p1, g1, c1, w1, i1, r1⟩ := lift_fields hlen fs.toList 0 ml xs (fun f hf cs d ps ml => ih f.type cs d ps ml (by
        have := List.all_eq_true.1 hin f hf
        simpa using this)) hti hx hM
      rw [List.drop_zero] at c1
      refine ⟨ml1, as, p1, g1, c1, w1, i1, .agg hu ?_ ?_ fun i f d hf hd => ?_⟩
      · rw [← hlen, ← c1, List.length_map]
      · rw [List.length_map, (mapM_some hx).1, Array.length_toList]
      · rw [List.getElem?_map] at hd
        cases hxi : xs[i]? with
        | none => rw [hxi] at hd; cases hd
        | some y =>
          rw [hxi] at hd
          injection hd with hd
          subst hd
          obtain ⟨_, k⟩ := r1 i f y (by rw [Array.getElem?_toList]; exact hf) hxi
          exact k
    · cases hp
end
end Go.Proofs.Ytmjnbdkjekdkgaa
