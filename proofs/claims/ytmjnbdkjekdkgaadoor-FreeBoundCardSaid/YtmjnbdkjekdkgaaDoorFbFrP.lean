/-
  Terms put for names: what is put, plainly, and its laws.
-/
import Derived.Test.YtmjnbdkjekdkgaaDoorFbFrL
namespace Go.Proofs.YtmjnbdkjekdkgaaDoor
open Go Go.RowKit
set_option linter.unusedVariables false
set_option linter.unusedSimpArgs false

/-- A name's term. -/
def lookT : List (List Nat) → List Nd → List Nat → Option Nd
  | n :: ns, t :: ts, s => if n = s then some t else lookT ns ts s
  | _, _, _ => none
def Nd.name : Nd → List Nat
 | .mk _ name _ _ _ => name
def Nd.setAt (a : Int) : Nd → Nd
 | .mk op name n _ kids => .mk op name n a kids
def Nd.num' : Nd → Int
 | .mk _ _ n _ _ => n
def Nd.kids' : Nd → List Nd
 | .mk _ _ _ _ l => l
/-- What is added to what is added. -/
def joinN (op name : List Nat) (n a : Int) (kids : List Nd) : Nd :=
  if op = [112, 108, 117, 115] then match kids with
    | [k] => if k.op = [110, 117, 109] then .mk [110, 117, 109] [] (n + k.num') a [] else if k.op = [112, 108, 117, 115] then .mk op name (n + k.num') a k.kids' else .mk op name n a kids
    | _ => .mk op name n a kids
  else .mk op name n a kids
/-- The first name that isn't used: so many strokes at most. -/
def unusedN (used : List (List Nat)) : Nat → List Nat → List Nat
  | 0, s => s
  | f + 1, s => if inB s used then unusedN used f (s ++ [39]) else s
def freshN (cnt : List Nat → Int) (s : List Nat) (used : List (List Nat)) : List Nat :=
 if cnt (unusedN used (used.length + 1) s) > 12 then unusedN used (used.length + 1) [118] else unusedN used (used.length + 1) s
/-- What is put in a kid, but for one name. -/
def onlyN (ns : List (List Nat)) (ts : List Nd) (but : List Nat) (l : List (List Nat)) : List (List Nat × Nd) :=
  l.filterMap fun s => if s = but then none else (lookT ns ts s).map fun t => (s, t)
def freeK : List Nd → List (List Nat)
 | k :: _ => freeN k
 | [] => []
structure PutX where
 name : List Nat
 ns : List (List Nat)
 ts : List Nd
/-- What is put within what binds a name. -/
def boundX (cnt : List Nat → Int) (name : List Nat) (kids : List Nd) (ns : List (List Nat)) (ts : List Nd) : PutX :=
  let x := onlyN ns ts name (freeK kids)
  let used := freeK kids ++ (x.map fun p => freeN p.2).flatten
  if x.any (fun p => inB name (freeN p.2)) then
    let name' := freshN cnt name used
    ⟨name', x.map Prod.fst ++ [name], x.map Prod.snd ++ [.mk [118, 97, 114] name' 0 0 []]⟩
  else ⟨name, x.map Prod.fst, x.map Prod.snd⟩
mutual
/-- Terms put for names. -/
def putN (cnt : List Nat → Int) : Nd → List (List Nat) → List Nd → Nd
 | .mk op name n a kids, ns, ts =>
  if op = [118, 97, 114] ∧ (lookT ns ts name).isSome then match lookT ns ts name with
   | some t => t.setAt a
   | none => .mk op name n a kids
  else if op = [105, 115] ∧ (lookT ns ts name).any (fun t => decide (t.op = [118, 97, 114])) then match lookT ns ts name with
   | some t => .mk op t.name n a kids
   | none => .mk op name n a kids
  else if op = [101, 120] ∨ op = [97, 108, 108] then
   .mk op (boundX cnt name kids ns ts).name n a (putL cnt kids (boundX cnt name kids ns ts).ns (boundX cnt name kids ns ts).ts)
  else joinN op name n a (putL cnt kids ns ts)
def putL (cnt : List Nat → Int) : List Nd → List (List Nat) → List Nd → List Nd
 | [], _, _ => []
 | k :: l, ns, ts => putN cnt k ns ts :: putL cnt l ns ts
end
theorem putL_map (cnt : List Nat → Int) (ns : List (List Nat)) (ts : List Nd) : ∀ l : List Nd, putL cnt l ns ts = l.map fun k => putN cnt k ns ts
 | [] => by simp [putL]
 | k :: l => by rw [putL, putL_map cnt ns ts l]; rfl

theorem lookT_nil (s : List Nat) : lookT [] [] s = none := rfl
theorem lookT_none (ts : List Nd) (s : List Nat) : lookT [] ts s = none := by cases ts <;> rfl
theorem onlyN_none (but : List Nat) (l : List (List Nat)) : onlyN [] [] but l = [] := by
 unfold onlyN
 rw [List.filterMap_eq_nil_iff]
 intro s _
 rw [lookT_nil]
 split <;> rfl
theorem boundX_none (cnt : List Nat → Int) (name : List Nat) (kids : List Nd) : boundX cnt name kids [] [] = ⟨name, [], []⟩ := by
 unfold boundX
 simp only [onlyN_none, List.any_nil]
 rfl
theorem termN_plus {op name : List Nat} {n a : Int} {kids : List Nd} (h : termN (.mk op name n a kids) = true) (hp : op = [112, 108, 117, 115]) : ∃ k, kids = [k] ∧ k.op = [118, 97, 114] ∧ termN k = true := by
 subst hp
 rw [Ua] at h
 rw [if_neg (by decide), if_neg (by decide), if_pos (by decide)] at h
 simp only [Bool.and_eq_true, decide_eq_true_eq, List.all_eq_true] at h
 match kids, h with
 | [k], h => exact ⟨k, rfl, (h.2.2.2.2 k (List.mem_cons_self ..)).1, (h.2.2.2.2 k (List.mem_cons_self ..)).2⟩
 | [], h => simp at h
 | _ :: _ :: l, h => exfalso; have := h.2.2.2.1; simp at this; omega
theorem formN_plus {name : List Nat} {n a : Int} {kids : List Nd} (h : formN (.mk [112, 108, 117, 115] name n a kids) = true) : False := by
 rw [Uh] at h
 rw [if_neg (by decide), if_neg (by decide), if_neg (by decide), if_neg (by decide), if_neg (by decide), if_neg (by decide), if_neg (by decide)] at h
 cases h
/-- A kid of a formula or a term is one. -/
def okN (x : Nd) : Prop := formN x = true ∨ termN x = true
theorem all_mem {p : Nd → Bool} {l : List Nd} (h : l.all p = true) {k : Nd} (hk : k ∈ l) : p k = true := List.all_eq_true.1 h k hk
theorem len0' {l : List Nd} {k : Nd} (h : ((l.length : Nat) : Int) = 0) (hk : k ∈ l) : False := by rw [len0 h] at hk; cases hk
theorem termN_kids {op name : List Nat} {n a : Int} {kids : List Nd} (h : termN (.mk op name n a kids) = true) : ∀ k ∈ kids, termN k = true := by
 intro k hk
 rw [Ua] at h
 split at h
 ·simp only [Bool.and_eq_true, decide_eq_true_eq] at h
  exact (len0' h.2.2 hk).elim
 ·split at h
  ·simp only [Bool.and_eq_true, decide_eq_true_eq] at h
   exact (len0' h.2.2.2 hk).elim
  ·split at h
   ·simp only [Bool.and_eq_true, decide_eq_true_eq, List.all_eq_true] at h
    exact (h.2.2.2.2 k hk).2
   ·split at h
    ·simp only [Bool.and_eq_true, decide_eq_true_eq, List.all_eq_true, partB] at h
     exact (h.2.2.2 k hk).1
    ·split at h
     ·simp only [Bool.and_eq_true, List.all_eq_true] at h
      exact h.2.1 k hk
     ·cases h
theorem okN_kids {op name : List Nat} {n a : Int} {kids : List Nd} (h : okN (.mk op name n a kids)) : ∀ k ∈ kids, okN k := by
 intro k hk
 rcases h with h | h
 ·rw [Uh] at h
  split at h
  ·exact (len0' (bare0 h) hk).elim
  ·split at h
   ·simp only [Bool.and_eq_true] at h
    exact .inl (all_mem h.2 hk)
   ·split at h
    ·simp only [Bool.and_eq_true] at h
     exact .inl (all_mem h.2 hk)
    ·split at h
     ·simp only [Bool.and_eq_true] at h
      exact .inl (all_mem h.2.2.2.2 hk)
     ·split at h
      ·simp only [Bool.and_eq_true, decide_eq_true_eq] at h
       exact (len0' h.2.2 hk).elim
      ·split at h
       ·simp only [Bool.and_eq_true] at h
        exact .inr (all_mem h.2 hk)
       ·split at h
        ·simp only [Bool.and_eq_true] at h
         exact .inr (all_mem h.2.2.2 hk)
        ·cases h
 ·exact .inr (termN_kids h k hk)
theorem okN_bind {op name : List Nat} {n a : Int} {kids : List Nd} (h : okN (.mk op name n a kids)) (hv : op = [101, 120] ∨ op = [97, 108, 108]) : ∃ k, kids = [k] := by
 have hl : ((kids.length : Nat) : Int) = 1 := by
  rcases h with h | h
  ·rw [Uh] at h
   rw [if_neg (by rcases hv with rfl | rfl <;> decide), if_neg (by rcases hv with rfl | rfl <;> decide), if_neg (by rcases hv with rfl | rfl <;> decide), if_pos (by rcases hv with rfl | rfl <;> decide)] at h
   simp only [Bool.and_eq_true, decide_eq_true_eq] at h
   exact h.2.2.2.1
  ·exfalso
   rw [Ua] at h
   rw [if_neg (by rcases hv with rfl | rfl <;> decide), if_neg (by rcases hv with rfl | rfl <;> decide), if_neg (by rcases hv with rfl | rfl <;> decide), if_neg (by rcases hv with rfl | rfl <;> decide), if_neg (by rcases hv with rfl | rfl <;> decide)] at h
   cases h
 match kids, hl with
 | [k], _ => exact ⟨k, rfl⟩
 | [], h => simp at h
 | _ :: _ :: l, h => exfalso; simp at h; omega
theorem joinN_id {op name : List Nat} {n a : Int} {kids : List Nd} (h : okN (.mk op name n a kids)) : joinN op name n a kids = .mk op name n a kids := by
 unfold joinN
 split
 ·rename_i hp
  subst hp
  rcases h with h | h
  ·exact (formN_plus h).elim
  ·obtain ⟨k, rfl, hk, _⟩ := termN_plus h rfl
   simp only [hk]
   rw [if_neg (by decide), if_neg (by decide)]
 ·rfl
/-- Nothing put. -/
theorem put_none (cnt : List Nat → Int) (x : Nd) : okN x → putN cnt x [] [] = x := by
  refine nd_rec (M := fun x => okN x → putN cnt x [] [] = x) (fun op name n a kids ih h => ?_) x
  have hk : putL cnt kids [] [] = kids := by
    rw [putL_map]
    conv => rhs; rw [← List.map_id kids]
    exact List.map_congr_left fun k hk => ih k hk (okN_kids h k hk)
  rw [putN, lookT_nil, boundX_none]
  rw [if_neg (by simp), if_neg (by simp)]
  simp only [hk]
  split
  · rfl
  · exact joinN_id h
theorem only_self {name but : List Nat} {t : Nd} {l : List (List Nat)} : ∀ p ∈ onlyN [name] [t] but l, p = (name, t) ∧ name ≠ but := by
 intro p hp
 obtain ⟨s, _, h⟩ := List.mem_filterMap.1 hp
 split at h
 ·cases h
 ·rename_i hne
  rw [Option.map_eq_some_iff] at h
  obtain ⟨t', h1, rfl⟩ := h
  unfold lookT at h1
  split at h1
  ·rename_i e; subst e; injection h1 with h1; subst h1; exact ⟨rfl, hne⟩
  ·rw [lookT_nil] at h1; cases h1
/-- What is bound is not put. -/
theorem put_bound (cnt : List Nat → Int) (name : List Nat) (n a : Int) (k t : Nd) (h : okN (.mk [101, 120] name n a [k])) : putN cnt (.mk [101, 120] name n a [k]) [name] [t] = .mk [101, 120] name n a [k] := by
  have ho : onlyN [name] [t] name (freeK [k]) = [] := by
    cases e : onlyN [name] [t] name (freeK [k]) with
    | nil => rfl
    | cons p l =>
      have := only_self p (by rw [e]; exact List.mem_cons_self ..)
      exact absurd rfl this.2
  have hb : boundX cnt name [k] [name] [t] = ⟨name, [], []⟩ := by
    unfold boundX
    simp only [ho, List.any_nil]
    rfl
  rw [putN, if_neg (by simp), if_neg (by simp), if_pos (.inl rfl), hb]
  show Nd.mk [101, 120] name n a (putL cnt [k] [] []) = _
  rw [putL_map]
  simp only [List.map_cons, List.map_nil]
  rw [put_none cnt k (okN_kids h k (List.mem_cons_self ..))]
theorem bound_gone (name : List Nat) (n a : Int) (k : Nd) : ¬ name ∈ namesN (.mk [101, 120] name n a [k]) [] := by
 rw [namesN, if_neg (by decide), if_pos (.inl rfl)]
 intro h
 obtain ⟨k', _, h⟩ := mem_namesL.1 h
 exact ((mem_namesN _ _ _).1 h).2 (by simp)
end Go.Proofs.YtmjnbdkjekdkgaaDoor
