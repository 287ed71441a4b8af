/-
  Laws of terms that are put for names, in plain Lean.
-/
import Derived.Test.YtmjnbdkjekdkgaaDoorFlPud
namespace Go.Proofs.YtmjnbdkjekdkgaaDoor
open Go Go.RowKit
set_option linter.unusedVariables false
set_option linter.unusedSimpArgs false

theorem nameB_len {s : List Nat} (h : nameB s = true) : s.length ≤ 2000 := by
 unfold nameB at h
 rw [Bool.and_eq_true] at h
 have h1 := of_decide_eq_true h.1
 unfold tokens at h1
 split at h1
 ·cases h1
 ·rename_i hs
  rw [Jh] at hs
  omega
theorem okN_small {op name : List Nat} {n a : Int} {kids : List Nd} (h : okN (.mk op name n a kids)) : name.length ≤ 2000 ∧ 0 ≤ n ∧ n ≤ 99 := by
 have hbare : ∀ m, bareB name n kids m = true → name.length ≤ 2000 ∧ 0 ≤ n ∧ n ≤ 99 := fun m hb => by
  simp only [bareB, Bool.and_eq_true, decide_eq_true_eq] at hb
  obtain ⟨h1, h2, _⟩ := hb
  subst h1 h2
  exact ⟨Nat.zero_le _, by omega, by omega⟩
 rcases h with h | h
 ·rw [Uh] at h
  split at h
  ·exact hbare _ h
  ·split at h
   ·rw [Bool.and_eq_true] at h; exact hbare _ h.1
   ·split at h
    ·rw [Bool.and_eq_true] at h; exact hbare _ h.1
    ·split at h
     ·simp only [Bool.and_eq_true, decide_eq_true_eq] at h
      exact ⟨nameB_len h.1, h.2.1, by omega⟩
     ·split at h
      ·simp only [Bool.and_eq_true, decide_eq_true_eq] at h
       exact ⟨nameB_len h.1, by omega, by omega⟩
      ·split at h
       ·rw [Bool.and_eq_true] at h; exact hbare _ h.1
       ·split at h
        ·simp only [Bool.and_eq_true, decide_eq_true_eq] at h
         exact ⟨nameB_len h.1, by omega, by omega⟩
        ·cases h
 ·rw [J7] at h
  split at h
  ·simp only [Bool.and_eq_true, decide_eq_true_eq] at h
   exact ⟨nameB_len h.1, by omega, by omega⟩
  ·split at h
   ·simp only [Bool.and_eq_true, decide_eq_true_eq] at h
    exact ⟨by rw [h.1]; exact Nat.zero_le _, by omega, by omega⟩
   ·split at h
    ·simp only [Bool.and_eq_true, decide_eq_true_eq] at h
     exact ⟨by rw [h.1]; exact Nat.zero_le _, by omega, by omega⟩
    ·split at h
     ·simp only [Bool.and_eq_true, decide_eq_true_eq] at h
      exact ⟨by rw [h.1]; exact Nat.zero_le _, by omega, by omega⟩
     ·split at h
      ·rw [Bool.and_eq_true] at h; exact hbare _ h.1
      ·cases h
theorem okN_okB (x : Nd) : okN x → okB 99 x = true := by
 refine nd_rec (M := fun x => okN x → okB 99 x = true) (fun op name n a kids ih h => ?_) x
 obtain ⟨h1, h2, h3⟩ := okN_small h
 rw [okB_mk]
 simp only [Bool.and_eq_true, decide_eq_true_eq, List.all_eq_true]
 refine ⟨by omega, h2, h3, ?_, ?_, fun k hk => ih k hk (okN_kids h k hk)⟩
 ·by_cases hb : op = [101, 120] ∨ op = [97, 108, 108]
  ·obtain ⟨k, rfl⟩ := okN_bind h hb
   simp
  ·have : (decide (op = [101, 120]) || decide (op = [97, 108, 108])) = false := by
    rw [Bool.or_eq_false_iff]
    exact ⟨decide_eq_false fun e => hb (.inl e), decide_eq_false fun e => hb (.inr e)⟩
   rw [this]; rfl
 ·by_cases hp : op = [112, 108, 117, 115]
  ·subst hp
   rcases h with h | h
   ·exact (formN_plus h).elim
   ·obtain ⟨k, rfl, hk, _⟩ := termN_plus h rfl
    simp [hk]
  ·rw [decide_eq_false hp]; rfl
theorem term_num {t : Nd} (h : termN t = true) : 0 ≤ t.num' ∧ t.num' ≤ 99 := by
 obtain ⟨o, s, z, a, l⟩ := t
 have := okN_small (.inr h)
 exact ⟨this.2.1, this.2.2⟩
/-! Names anywhere. -/
mutual
def allNm : Nd → List (List Nat)
 | .mk _ name _ _ kids => name :: allNmL kids
def allNmL : List Nd → List (List Nat)
 | [] => []
 | k :: l => allNm k ++ allNmL l
end
theorem allNmL_mem {z : List Nat} : ∀ {l : List Nd}, z ∈ allNmL l ↔ ∃ k ∈ l, z ∈ allNm k := by
 intro l
 induction l with
 | nil => simp [allNmL]
 | cons k l ih => rw [allNmL, List.mem_append, ih]; simp
def ByA (x : Nd) : Prop := ∀ s ∈ allNm x, Bytes s
theorem ByA.kid {op name : List Nat} {n a : Int} {kids : List Nd} (h : ByA (.mk op name n a kids)) {k : Nd} (hk : k ∈ kids) : ByA k := fun s hs => h s (by rw [allNm]; exact List.mem_cons_of_mem _ (allNmL_mem.2 ⟨k, hk, hs⟩))
theorem ByA.name {op name : List Nat} {n a : Int} {kids : List Nd} (h : ByA (.mk op name n a kids)) : Bytes name := h name (by rw [allNm]; exact List.mem_cons_self ..)
theorem RdN.byA {h : Hp} {x : Nd} {cs : List AV} (r : RdN h x cs) : ByA x := by
 induction r with
 | leaf hs ha hb =>
  intro s hm
  rw [allNm, allNmL] at hm
  rw [List.mem_singleton] at hm
  subst hm; exact hb.2
 | node hr hn hl hk hb ih =>
  intro s hm
  rw [allNm] at hm
  rcases List.mem_cons.1 hm with e | hm
  ·subst e; exact hb.2
  ·obtain ⟨k, hk', h⟩ := allNmL_mem.1 hm
   obtain ⟨i, hi⟩ := List.getElem?_of_mem hk'
   exact ih i k hi s h
theorem names_all (x : Nd) : ∀ b z, z ∈ namesN x b → z ∈ allNm x := by
 refine nd_rec (M := fun x => ∀ b z, z ∈ namesN x b → z ∈ allNm x) (fun op name n a kids ih b z h => ?_) x
 have hk : ∀ b, z ∈ namesL kids b → z ∈ allNm (.mk op name n a kids) := fun b h => by
  obtain ⟨k, hk, h⟩ := mem_namesL.1 h
  rw [allNm]
  exact List.mem_cons_of_mem _ (allNmL_mem.2 ⟨k, hk, ih k hk b z h⟩)
 rw [namesN] at h
 split at h
 ·split at h
  ·cases h
  ·rw [List.mem_singleton] at h
   subst h
   rw [allNm]; exact List.mem_cons_self ..
 ·split at h
  ·exact hk _ h
  ·exact hk _ h
theorem ByA.names {x : Nd} (h : ByA x) : ∀ s ∈ namesN x [], Bytes s := fun s hs => h s (names_all x [] s hs)
theorem mem_freeN {x : Nd} (h : ByA x) (z : List Nat) : z ∈ freeN x ↔ z ∈ namesN x [] := sc_mem h.names z
/-! A fresh name is fresh. -/
theorem unusedN_new {used : List (List Nat)} {s : List Nat} : ∀ (f k : Nat), f + k = used.length + 1 → (∀ j, j < k → inB (strokes s j) used = true) → inB (unusedN used f (strokes s k)) used = false := by
 intro f
 induction f with
 | zero =>
  intro k hk hj
  have := strokes_most hj
  omega
 | succ f ih =>
  intro k hk hj
  rw [unusedN]
  by_cases h : inB (strokes s k) used = true
  ·rw [if_pos h, strokes_succ]
   refine ih (k + 1) (by omega) fun j hj' => ?_
   rcases Nat.lt_succ_iff_lt_or_eq.1 hj' with h' | h'
   ·exact hj j h'
   ·subst h'; exact h
  ·rw [if_neg h]
   simpa using h
theorem freshN_new (cnt : List Nat → Int) (s : List Nat) (used : List (List Nat)) : ¬ freshN cnt s used ∈ used := by
 have h : ∀ s, ¬ unusedN used (used.length + 1) s ∈ used := fun s hm => by
  have := unusedN_new (used := used) (s := s) (used.length + 1) 0 (by omega) (fun j hj => absurd hj (Nat.not_lt_zero j))
  rw [strokes_zero] at this
  rw [mem_inB.2 hm] at this
  cases this
 unfold freshN
 split
 ·exact h _
 ·exact h _
/-! What is free in what was put, variables being put. -/
def sigN (ns : List (List Nat)) (ts : List Nd) (y : List Nat) : List Nat := match lookT ns ts y with
 | some t => t.name
 | none => y
def VarT (t : Nd) : Prop := t.op = [118, 97, 114] ∧ Bytes t.name
theorem VarT.names {t : Nd} (h : VarT t) : namesN t [] = [t.name] := by
 obtain ⟨o, s, z, a, l⟩ := t
 have : o = [118, 97, 114] := h.1
 subst this
 rw [namesN, if_pos (.inl rfl), if_neg (by simp [inB])]
 rfl
theorem VarT.free {t : Nd} (h : VarT t) (z : List Nat) : z ∈ freeN t ↔ z = t.name := by
 unfold freeN
 rw [sc_mem (by rw [h.names]; intro s hs; rw [List.mem_singleton] at hs; subst hs; exact h.2), h.names, List.mem_singleton]
theorem look_pairs {ps : List (List Nat × Nd)} {s : List Nat} : lookT (ps.map Prod.fst) (ps.map Prod.snd) s = (ps.find? fun p => decide (p.1 = s)).map Prod.snd := by
 induction ps with
 | nil => rfl
 | cons p ps ih =>
  rw [List.map_cons, List.map_cons, lookT, List.find?_cons, ih]
  by_cases e : p.1 = s
  ·rw [if_pos e, decide_eq_true e]; rfl
  ·rw [if_neg e, decide_eq_false e]
theorem look_only {ns : List (List Nat)} {ts : List Nd} {but s : List Nat} {l : List (List Nat)} : ((onlyN ns ts but l).find? fun p => decide (p.1 = s)).map Prod.snd = if s ∈ l ∧ s ≠ but then lookT ns ts s else none := by
 induction l with
 | nil => rw [if_neg (by simp)]; rfl
 | cons y l ih =>
  rw [onlyN_cons, List.find?_append]
  by_cases hy : y = but
  ·rw [if_pos hy]
   show ((onlyN ns ts but l).find? _).map Prod.snd = _
   rw [ih]
   by_cases h : s ∈ l ∧ s ≠ but
   ·rw [if_pos h, if_pos ⟨List.mem_cons_of_mem _ h.1, h.2⟩]
   ·rw [if_neg h, if_neg]
    rintro ⟨h1, h2⟩
    rcases List.mem_cons.1 h1 with e | h1
    ·subst e; exact h2 hy
    ·exact h ⟨h1, h2⟩
  ·rw [if_neg hy]
   by_cases e : y = s
   ·subst e
    rw [if_pos ⟨List.mem_cons_self .., hy⟩]
    cases h : lookT ns ts y with
    | some t => simp
    | none =>
     simp only [List.find?_nil, Option.none_or]
     rw [ih]
     split
     ·exact h
     ·rfl
   ·have hrest : ((onlyN ns ts but l).find? fun p => decide (p.1 = s)).map Prod.snd = if s ∈ y :: l ∧ s ≠ but then lookT ns ts s else none := by
     rw [ih]
     by_cases h : s ∈ l ∧ s ≠ but
     ·rw [if_pos h, if_pos ⟨List.mem_cons_of_mem _ h.1, h.2⟩]
     ·rw [if_neg h, if_neg]
      rintro ⟨h1, h2⟩
      rcases List.mem_cons.1 h1 with e' | h1
      ·exact e e'.symm
      ·exact h ⟨h1, h2⟩
    rw [← hrest]
    cases lookT ns ts y with
    | some t => simp [e]
    | none => simp
theorem joinN_names (op name : List Nat) (n a : Int) (kids : List Nd) (hv : ¬ (op = [118, 97, 114] ∨ op = [105, 115])) (hb : ¬ (op = [101, 120] ∨ op = [97, 108, 108])) (hk : op = [112, 108, 117, 115] → ∀ k ∈ kids, k.op = [118, 97, 114]) : joinN op name n a kids = .mk op name n a kids := by
 unfold joinN
 split
 ·rename_i hp
  split
  ·rename_i k
   have := hk hp k (List.mem_cons_self ..)
   rw [if_neg (by rw [this]; decide), if_neg (by rw [this]; decide)]
  ·rfl
 ·rfl
theorem put_op {cnt : List Nat → Int} {k : Nd} {ns : List (List Nat)} {ts : List Nd} (hk : k.op = [118, 97, 114]) (hts : ∀ t ∈ ts, VarT t) : (putN cnt k ns ts).op = [118, 97, 114] := by
 obtain ⟨o, s, z, a, l⟩ := k
 have : o = [118, 97, 114] := hk
 subst this
 rw [putN]
 split
 ·rename_i h
  obtain ⟨t, h2⟩ := Option.isSome_iff_exists.1 h.2
  rw [h2]
  have := (hts t (lookT_mem h2)).1
  obtain ⟨o, s, z, a, l⟩ := t
  exact this
 ·rw [if_neg (by simp), if_neg (by simp)]
  unfold joinN
  rw [if_neg (by decide)]
  rfl
theorem names_put (cnt : List Nat → Int) (x : Nd) : okN x → ByA x → ∀ (ps : List (List Nat × Nd)), (∀ p ∈ ps, VarT p.2) → ∀ z, z ∈ namesN (putN cnt x (ps.map Prod.fst) (ps.map Prod.snd)) [] ↔ ∃ y, y ∈ namesN x [] ∧ z = sigN (ps.map Prod.fst) (ps.map Prod.snd) y := by
 refine nd_rec (M := fun x => okN x → ByA x → ∀ (ps : List (List Nat × Nd)), (∀ p ∈ ps, VarT p.2) → ∀ z, z ∈ namesN (putN cnt x (ps.map Prod.fst) (ps.map Prod.snd)) [] ↔ ∃ y, y ∈ namesN x [] ∧ z = sigN (ps.map Prod.fst) (ps.map Prod.snd) y) (fun op nm n a kids ih h hB ps hps z => ?_) x
 have hts : ∀ t ∈ ps.map Prod.snd, VarT t := fun t ht => by obtain ⟨p, hp, rfl⟩ := List.mem_map.1 ht; exact hps p hp
 rw [putN]
 by_cases hv : op = [118, 97, 114] ∨ op = [105, 115]
 ·have hl := okN_leaf h hv
  subst hl
  have hn : namesN (.mk op nm n a []) [] = [nm] := by rw [namesN, if_pos hv, if_neg (by simp [inB])]
  rw [hn]
  have hR : (∃ y, y ∈ [nm] ∧ z = sigN (ps.map Prod.fst) (ps.map Prod.snd) y) ↔ z = sigN (ps.map Prod.fst) (ps.map Prod.snd) nm := by simp
  rw [hR]
  cases hlk : lookT (ps.map Prod.fst) (ps.map Prod.snd) nm with
  | some t =>
   have htv := hts t (lookT_mem hlk)
   have hs : sigN (ps.map Prod.fst) (ps.map Prod.snd) nm = t.name := by unfold sigN; rw [hlk]
   rw [hs]
   rcases hv with rfl | rfl
   ·rw [if_pos ⟨rfl, rfl⟩]
    have : namesN (t.setAt a) [] = [t.name] := by
     obtain ⟨o', s', z', a', l'⟩ := t
     have := htv.1
     have : o' = [118, 97, 114] := this
     subst this
     show namesN (.mk _ _ _ _ _) [] = _
     rw [namesN, if_pos (.inl rfl), if_neg (by simp [inB])]; rfl
    show z ∈ namesN (t.setAt a) [] ↔ _
    rw [this, List.mem_singleton]
   ·rw [if_neg (by simp), if_pos ⟨rfl, by show decide (t.op = _) = true; rw [htv.1]; rfl⟩]
    show z ∈ namesN (.mk [105, 115] t.name n a []) [] ↔ _
    rw [namesN, if_pos (.inr rfl), if_neg (by simp [inB]), List.mem_singleton]
  | none =>
   have hs : sigN (ps.map Prod.fst) (ps.map Prod.snd) nm = nm := by unfold sigN; rw [hlk]
   rw [hs, if_neg (by simp), if_neg (by simp), if_neg (by rcases hv with rfl | rfl <;> decide), putL]
   have : joinN op nm n a [] = .mk op nm n a [] := by unfold joinN; split <;> rfl
   rw [this, hn, List.mem_singleton]
 ·rw [if_neg (fun e => hv (.inl e.1)), if_neg (fun e => hv (.inr e.1))]
  by_cases hb : op = [101, 120] ∨ op = [97, 108, 108]
  ·rw [if_pos hb]
   obtain ⟨k, rfl⟩ := okN_bind h hb
   have hkm : k ∈ [k] := List.mem_cons_self ..
   have hBk := hB.kid hkm
   have hfk : ∀ z, z ∈ freeK [k] ↔ z ∈ namesN k [] := fun z => mem_freeN hBk z
   have hnx : ∀ y, y ∈ namesN (.mk op nm n a [k]) [] ↔ y ∈ namesN k [] ∧ y ≠ nm := fun y => by
    rw [namesN, if_neg hv, if_pos hb, mem_namesL]
    constructor
    ·rintro ⟨k', hk', hy⟩
     rw [List.mem_singleton] at hk'
     subst hk'
     have := (mem_namesN _ _ _).1 hy
     exact ⟨this.1, fun e => this.2 (by rw [e]; simp)⟩
    ·rintro ⟨h1, h2⟩
     exact ⟨k, hkm, (mem_namesN _ _ _).2 ⟨h1, by simpa using h2⟩⟩
   -- what is put within
   have key : ∀ (nm' : List Nat) (qs : List (List Nat × Nd)), (∀ p ∈ qs, VarT p.2) → boundX cnt nm [k] (ps.map Prod.fst) (ps.map Prod.snd) = ⟨nm', qs.map Prod.fst, qs.map Prod.snd⟩ →
     (∀ y, y ∈ namesN k [] → y ≠ nm → sigN (qs.map Prod.fst) (qs.map Prod.snd) y = sigN (ps.map Prod.fst) (ps.map Prod.snd) y ∧ sigN (ps.map Prod.fst) (ps.map Prod.snd) y ≠ nm') → sigN (qs.map Prod.fst) (qs.map Prod.snd) nm = nm' →
     (z ∈ namesN (.mk op (boundX cnt nm [k] (ps.map Prod.fst) (ps.map Prod.snd)).name n a (putL cnt [k] (boundX cnt nm [k] (ps.map Prod.fst) (ps.map Prod.snd)).ns (boundX cnt nm [k] (ps.map Prod.fst) (ps.map Prod.snd)).ts)) [] ↔ ∃ y, y ∈ namesN (.mk op nm n a [k]) [] ∧ z = sigN (ps.map Prod.fst) (ps.map Prod.snd) y) := by
    intro nm' qs hqs hbx hsig hsn
    rw [hbx, putL_map, namesN, if_neg hv, if_pos hb, mem_namesL]
    constructor
    ·rintro ⟨k', hk', hz⟩
     simp only [List.map_cons, List.map_nil, List.mem_singleton] at hk'
     subst hk'
     obtain ⟨hz1, hz2⟩ := (mem_namesN _ _ _).1 hz
     obtain ⟨y, hy, rfl⟩ := (ih k hkm (okN_kids h k hkm) hBk qs hqs z).1 hz1
     have hne : y ≠ nm := fun e => hz2 (by rw [e, hsn]; simp)
     exact ⟨y, (hnx y).2 ⟨hy, hne⟩, (hsig y hy hne).1⟩
    ·rintro ⟨y, hy, rfl⟩
     obtain ⟨h1, h2⟩ := (hnx y).1 hy
     obtain ⟨e1, e2⟩ := hsig y h1 h2
     refine ⟨_, List.mem_cons_self .., (mem_namesN _ _ _).2 ⟨?_, by simpa using e2⟩⟩
     exact (ih k hkm (okN_kids h k hkm) hBk qs hqs _).2 ⟨y, h1, e1.symm⟩
   obtain ⟨pl, hpl⟩ : ∃ pl, onlyN (ps.map Prod.fst) (ps.map Prod.snd) nm (freeK [k]) = pl := ⟨_, rfl⟩
   have hplv : ∀ p ∈ pl, VarT p.2 := fun p hp => by rw [← hpl] at hp; exact hts _ (lookT_mem (onlyN_mem hp).2.2)
   have hlook : ∀ y, lookT (pl.map Prod.fst) (pl.map Prod.snd) y = if y ∈ freeK [k] ∧ y ≠ nm then lookT (ps.map Prod.fst) (ps.map Prod.snd) y else none := fun y => by rw [look_pairs, ← hpl, look_only]
   have hmem : ∀ y t, y ∈ namesN k [] → y ≠ nm → lookT (ps.map Prod.fst) (ps.map Prod.snd) y = some t → ∃ p ∈ pl, p.2 = t := by
    intro y t h1 h2 h3
    have := hlook y
    rw [if_pos ⟨(hfk y).2 h1, h2⟩, h3, look_pairs, Option.map_eq_some_iff] at this
    obtain ⟨p, hp, e⟩ := this
    exact ⟨p, List.mem_of_find?_eq_some hp, e⟩
   cases hc : pl.any (fun p => inB nm (freeN p.2)) with
   | false =>
    refine key nm pl hplv (boundX_no hpl hc) (fun y h1 h2 => ⟨?_, ?_⟩) ?_
    ·unfold sigN
     rw [hlook y, if_pos ⟨(hfk y).2 h1, h2⟩]
    ·unfold sigN
     cases h3 : lookT (ps.map Prod.fst) (ps.map Prod.snd) y with
     | none => exact h2
     | some t =>
      obtain ⟨p, hp, rfl⟩ := hmem y t h1 h2 h3
      have := List.any_eq_false.1 hc p hp
      intro e
      apply this
      rw [mem_inB]
      exact ((hplv p hp).free nm).2 e.symm
    ·unfold sigN
     rw [hlook nm, if_neg (by simp)]
   | true =>
    have hB' : Bytes (freshN cnt nm (freeK [k] ++ (pl.map fun p => freeN p.2).flatten)) := freshN_bytes cnt hB.name _
    have hnew := freshN_new cnt nm (freeK [k] ++ (pl.map fun p => freeN p.2).flatten)
    have hbx := boundX_yes (cnt := cnt) hpl hc
    generalize freshN cnt nm (freeK [k] ++ (pl.map fun p => freeN p.2).flatten) = nm' at hB' hnew hbx
    have hqs : pl.map Prod.fst ++ [nm] = (pl ++ [(nm, Nd.mk [118, 97, 114] nm' 0 0 [])]).map Prod.fst ∧ pl.map Prod.snd ++ [.mk [118, 97, 114] nm' 0 0 []] = (pl ++ [(nm, Nd.mk [118, 97, 114] nm' 0 0 [])]).map Prod.snd := by simp
    rw [hqs.1, hqs.2] at hbx
    have hlook2 : ∀ y, lookT ((pl ++ [(nm, Nd.mk [118, 97, 114] nm' 0 0 [])]).map Prod.fst) ((pl ++ [(nm, Nd.mk [118, 97, 114] nm' 0 0 [])]).map Prod.snd) y = (lookT (pl.map Prod.fst) (pl.map Prod.snd) y).or (if nm = y then some (.mk [118, 97, 114] nm' 0 0 []) else none) := fun y => by
     rw [look_pairs, look_pairs, List.find?_append]
     cases (pl.find? fun p => decide (p.1 = y)) with
     | some p => rfl
     | none =>
      by_cases e : nm = y
      ·simp [e]
      ·simp [e]
    refine key nm' _ (fun p hp => ?_) hbx (fun y h1 h2 => ⟨?_, ?_⟩) ?_
    ·rcases List.mem_append.1 hp with hp | hp
     ·exact hplv p hp
     ·rw [List.mem_singleton] at hp
      subst hp
      exact ⟨rfl, hB'⟩
    ·unfold sigN
     rw [hlook2 y, hlook y, if_pos ⟨(hfk y).2 h1, h2⟩, if_neg (fun e => h2 e.symm)]
     cases lookT (ps.map Prod.fst) (ps.map Prod.snd) y <;> rfl
    ·unfold sigN
     cases h3 : lookT (ps.map Prod.fst) (ps.map Prod.snd) y with
     | none =>
      intro e
      have e : y = nm' := e
      exact hnew (List.mem_append_left _ ((hfk nm').2 (e ▸ h1)))
     | some t =>
      obtain ⟨p, hp, rfl⟩ := hmem y t h1 h2 h3
      intro e
      have e : p.2.name = nm' := e
      exact hnew (List.mem_append_right _ (List.mem_flatten.2 ⟨freeN p.2, List.mem_map.2 ⟨p, hp, rfl⟩, ((hplv p hp).free nm').2 e.symm⟩))
    ·unfold sigN
     rw [hlook2 nm, hlook nm, if_neg (by simp), if_pos rfl]
     rfl
  ·rw [if_neg hb, joinN_names op nm n a _ hv hb (fun hp k hk => by
    rw [putL_map] at hk
    obtain ⟨k0, hk0, rfl⟩ := List.mem_map.1 hk
    refine put_op ?_ hts
    subst hp
    rcases h with h | h
    ·exact (formN_plus h).elim
    ·obtain ⟨k1, rfl, hk1, _⟩ := termN_plus h rfl
     rw [List.mem_singleton] at hk0
     rw [hk0]; exact hk1), namesN, if_neg hv, if_neg hb, namesN, if_neg hv, if_neg hb, mem_namesL, putL_map]
   constructor
   ·rintro ⟨k', hk', hz⟩
    obtain ⟨k, hk, rfl⟩ := List.mem_map.1 hk'
    obtain ⟨y, hy, e⟩ := (ih k hk (okN_kids h k hk) (hB.kid hk) ps hps z).1 hz
    exact ⟨y, mem_namesL.2 ⟨k, hk, hy⟩, e⟩
   ·rintro ⟨y, hy, e⟩
    obtain ⟨k, hk, hy⟩ := mem_namesL.1 hy
    exact ⟨_, List.mem_map.2 ⟨k, hk, rfl⟩, (ih k hk (okN_kids h k hk) (hB.kid hk) ps hps z).2 ⟨y, hy, e⟩⟩
/-! One variable for one name. -/
/-- What the law gathers. -/
noncomputable def wantN (name : List Nat) (k : List (List Nat)) : List (List Nat) → List (List Nat) → List (List Nat)
  | [], acc => acc
  | y :: l, acc => wantN name k l (if y = name then insAll acc k else insN y acc)
theorem rising_wantN (name : List Nat) (k : List (List Nat)) : ∀ {l acc : List (List Nat)}, Rising acc → Rising (wantN name k l acc) := by
 intro l
 induction l with
 | nil => intro acc h; exact h
 | cons y l ih =>
  intro acc h
  rw [wantN]
  apply ih
  split
  ·exact rising_insAll h
  ·exact rising_insN y h
theorem mem_wantN (name : List Nat) (k : List (List Nat)) (z : List Nat) : ∀ {l acc : List (List Nat)}, z ∈ wantN name k l acc ↔ z ∈ acc ∨ (z ∈ l ∧ z ≠ name) ∨ (name ∈ l ∧ z ∈ k) := by
 intro l
 induction l with
 | nil => intro acc; simp [wantN]
 | cons y l ih =>
  intro acc
  rw [wantN, ih]
  by_cases e : y = name
  ·subst e
   rw [if_pos rfl, mem_insAll]
   constructor
   ·rintro ((h | h) | ⟨h1, h2⟩ | ⟨h1, h2⟩)
    ·exact .inl h
    ·exact .inr (.inr ⟨List.mem_cons_self .., h⟩)
    ·exact .inr (.inl ⟨List.mem_cons_of_mem _ h1, h2⟩)
    ·exact .inr (.inr ⟨List.mem_cons_self .., h2⟩)
   ·rintro (h | ⟨h1, h2⟩ | ⟨h1, h2⟩)
    ·exact .inl (.inl h)
    ·rcases List.mem_cons.1 h1 with e | h1
     ·exact absurd e h2
     ·exact .inr (.inl ⟨h1, h2⟩)
    ·exact .inl (.inr h2)
  ·rw [if_neg e, mem_insN]
   constructor
   ·rintro ((h | h) | ⟨h1, h2⟩ | ⟨h1, h2⟩)
    ·subst h; exact .inr (.inl ⟨List.mem_cons_self .., e⟩)
    ·exact .inl h
    ·exact .inr (.inl ⟨List.mem_cons_of_mem _ h1, h2⟩)
    ·exact .inr (.inr ⟨List.mem_cons_of_mem _ h1, h2⟩)
   ·rintro (h | ⟨h1, h2⟩ | ⟨h1, h2⟩)
    ·exact .inl (.inr h)
    ·rcases List.mem_cons.1 h1 with e' | h1
     ·exact .inl (.inl e')
     ·exact .inr (.inl ⟨h1, h2⟩)
    ·rcases List.mem_cons.1 h1 with e' | h1
     ·exact absurd e'.symm e
     ·exact .inr (.inr ⟨h1, h2⟩)
theorem leaves_eq (cnt : List Nat → Int) {x t : Nd} {name : List Nat} (hx : okN x) (hB : ByA x) (ht : VarT t) (htN : termN t = true) (hBt : ByA t) (hBp : ByA (putN cnt x [name] [t])) : freeN (putN cnt x [name] [t]) = wantN name (refN t) (refN x) [] := by
 refine rising_eq (sc_rising _) (rising_wantN _ _ List.Pairwise.nil) fun z => ?_
 have h1 := names_put cnt x hx hB [(name, t)] (fun p hp => by rw [List.mem_singleton] at hp; subst hp; exact ht) z
 simp only [List.map_cons, List.map_nil] at h1
 show z ∈ freeN _ ↔ _
 rw [mem_freeN hBp, h1, mem_wantN]
 have hrx : ∀ z, z ∈ refN x ↔ z ∈ namesN x [] := mem_refN x (okN_bare hx)
 have hrt : ∀ z, z ∈ refN t ↔ z = t.name := fun z => by rw [mem_refN t (termN_bare t htN), ht.names, List.mem_singleton]
 have hs : ∀ y, sigN [name] [t] y = if y = name then t.name else y := fun y => by
  unfold sigN
  rw [lookT]
  by_cases e : name = y
  ·rw [if_pos e, if_pos e.symm]
  ·rw [if_neg e, if_neg fun h => e h.symm, lookT_nil]
 constructor
 ·rintro ⟨y, hy, rfl⟩
  rw [hs]
  by_cases e : y = name
  ·rw [if_pos e]
   exact .inr (.inr ⟨(hrx name).2 (e ▸ hy), (hrt _).2 rfl⟩)
  ·rw [if_neg e]
   exact .inr (.inl ⟨(hrx y).2 hy, e⟩)
 ·rintro (h | ⟨h2, h3⟩ | ⟨h2, h3⟩)
  ·cases h
  ·exact ⟨z, (hrx z).1 h2, by rw [hs, if_neg h3]⟩
  ·exact ⟨name, (hrx name).1 h2, by rw [hs, if_pos rfl]; exact (hrt z).1 h3⟩
end Go.Proofs.YtmjnbdkjekdkgaaDoor
