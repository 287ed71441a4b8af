/-
  Terms put for names: what is put, plainly, and its laws.
-/
import Derived.Test.YtmjnbdkjekdkgaaDoorFsFrL
namespace Go.Proofs.YtmjnbdkjekdkgaaDoor
open Go Go.RowKit
set_option linter.unusedVariables false
set_option linter.unusedSimpArgs false

/-- A name's term. -/
def lookT : List (List Nat) → List Nd → List Nat → Option Nd
  | n :: ns, t :: ts, s => if n = s then some t else lookT ns ts s
  | _, _, _ => none
def Nd.name : Nd → List Nat
 | .mk _ name _ _ _ => name
def Nd.setAt (a : Int) : Nd → Nd
 | .mk op name n _ kids => .mk op name n a kids
def Nd.num' : Nd → Int
 | .mk _ _ n _ _ => n
def Nd.kids' : Nd → List Nd
 | .mk _ _ _ _ l => l
/-- What is added to what is added. -/
def joinN (op name : List Nat) (n a : Int) (kids : List Nd) : Nd :=
  if op = [112, 108, 117, 115] then match kids with
    | [k] => if k.op = [110, 117, 109] then .mk [110, 117, 109] [] (n + k.num') a [] else if k.op = [112, 108, 117, 115] then .mk op name (n + k.num') a k.kids' else .mk op name n a kids
    | _ => .mk op name n a kids
  else .mk op name n a kids
/-- The first name that isn't used: so many strokes at most. -/
def unusedN (used : List (List Nat)) : Nat → List Nat → List Nat
  | 0, s => s
  | f + 1, s => if inB s used then unusedN used f (s ++ [39]) else s
def freshN (cnt : List Nat → Int) (s : List Nat) (used : List (List Nat)) : List Nat :=
 if cnt (unusedN used (used.length + 1) s) > 12 then unusedN used (used.length + 1) [118] else unusedN used (used.length + 1) s
/-- What is put in a kid, but for one name. -/
def onlyN (ns : List (List Nat)) (ts : List Nd) (but : List Nat) (l : List (List Nat)) : List (List Nat × Nd) :=
  l.filterMap fun s => if s = but then none else (lookT ns ts s).map fun t => (s, t)
def freeK : List Nd → List (List Nat)
 | k :: _ => freeN k
 | [] => []
structure PutX where
 name : List Nat
 ns : List (List Nat)
 ts : List Nd
/-- What is put within what binds a name. -/
def boundX (cnt : List Nat → Int) (name : List Nat) (kids : List Nd) (ns : List (List Nat)) (ts : List Nd) : PutX :=
  let x := onlyN ns ts name (freeK kids)
  let used := freeK kids ++ (x.map fun p => freeN p.2).flatten
  if x.any (fun p => inB name (freeN p.2)) then
    let name' := freshN cnt name used
    ⟨name', x.map Prod.fst ++ [name], x.map Prod.snd ++ [.mk [118, 97, 114] name' 0 0 []]⟩
  else ⟨name, x.map Prod.fst, x.map Prod.snd⟩
mutual
/-- Terms put for names. -/
def putN (cnt : List Nat → Int) : Nd → List (List Nat) → List Nd → Nd
 | .mk op name n a kids, ns, ts =>
  if op = [118, 97, 114] ∧ (lookT ns ts name).isSome then match lookT ns ts name with
   | some t => t.setAt a
   | none => .mk op name n a kids
  else if op = [105, 115] ∧ (lookT ns ts name).any (fun t => decide (t.op = [118, 97, 114])) then match lookT ns ts name with
   | some t => .mk op t.name n a kids
   | none => .mk op name n a kids
  else if op = [101, 120] ∨ op = [97, 108, 108] then
   .mk op (boundX cnt name kids ns ts).name n a (putL cnt kids (boundX cnt name kids ns ts).ns (boundX cnt name kids ns ts).ts)
  else joinN op name n a (putL cnt kids ns ts)
def putL (cnt : List Nat → Int) : List Nd → List (List Nat) → List Nd → List Nd
 | [], _, _ => []
 | k :: l, ns, ts => putN cnt k ns ts :: putL cnt l ns ts
end
theorem putL_map (cnt : List Nat → Int) (ns : List (List Nat)) (ts : List Nd) : ∀ l : List Nd, putL cnt l ns ts = l.map fun k => putN cnt k ns ts
 | [] => by simp [putL]
 | k :: l => by rw [putL, putL_map cnt ns ts l]; rfl

theorem lookT_nil (s : List Nat) : lookT [] [] s = none := rfl
theorem lookT_none (ts : List Nd) (s : List Nat) : lookT [] ts s = none := by cases ts <;> rfl
theorem onlyN_none (but : List Nat) (l : List (List Nat)) : onlyN [] [] but l = [] := by
 unfold onlyN
 rw [List.filterMap_eq_nil_iff]
 intro s _
 rw [lookT_nil]
 split <;> rfl
theorem boundX_none (cnt : List Nat → Int) (name : List Nat) (kids : List Nd) : boundX cnt name kids [] [] = ⟨name, [], []⟩ := by
 unfold boundX
 simp only [onlyN_none, List.any_nil]
 rfl
theorem termN_plus {op name : List Nat} {n a : Int} {kids : List Nd} (h : termN (.mk op name n a kids) = true) (hp : op = [112, 108, 117, 115]) : ∃ k, kids = [k] ∧ k.op = [118, 97, 114] ∧ termN k = true := by
 subst hp
 rw [termN_mk] at h
 rw [if_neg (by decide), if_neg (by decide), if_pos (by decide)] at h
 simp only [Bool.and_eq_true, decide_eq_true_eq, List.all_eq_true] at h
 match kids, h with
 | [k], h => exact ⟨k, rfl, (h.2.2.2.2 k (List.mem_cons_self ..)).1, (h.2.2.2.2 k (List.mem_cons_self ..)).2⟩
 | [], h => simp at h
 | _ :: _ :: l, h => exfalso; have := h.2.2.2.1; simp at this; omega
theorem formN_plus {name : List Nat} {n a : Int} {kids : List Nd} (h : formN (.mk [112, 108, 117, 115] name n a kids) = true) : False := by
 rw [formN_mk] at h
 rw [if_neg (by decide), if_neg (by decide), if_neg (by decide), if_neg (by decide), if_neg (by decide), if_neg (by decide), if_neg (by decide)] at h
 cases h
/-- A kid of a formula or a term is one. -/
def okN (x : Nd) : Prop := formN x = true ∨ termN x = true
theorem all_mem {p : Nd → Bool} {l : List Nd} (h : l.all p = true) {k : Nd} (hk : k ∈ l) : p k = true := List.all_eq_true.1 h k hk
theorem len0' {l : List Nd} {k : Nd} (h : ((l.length : Nat) : Int) = 0) (hk : k ∈ l) : False := by rw [len0 h] at hk; cases hk
theorem termN_kids {op name : List Nat} {n a : Int} {kids : List Nd} (h : termN (.mk op name n a kids) = true) : ∀ k ∈ kids, termN k = true := by
 intro k hk
 rw [termN_mk] at h
 split at h
 ·simp only [Bool.and_eq_true, decide_eq_true_eq] at h
  exact (len0' h.2.2 hk).elim
 ·split at h
  ·simp only [Bool.and_eq_true, decide_eq_true_eq] at h
   exact (len0' h.2.2.2 hk).elim
  ·split at h
   ·simp only [Bool.and_eq_true, decide_eq_true_eq, List.all_eq_true] at h
    exact (h.2.2.2.2 k hk).2
   ·split at h
    ·simp only [Bool.and_eq_true, decide_eq_true_eq, List.all_eq_true, partB] at h
     exact (h.2.2.2 k hk).1
    ·split at h
     ·simp only [Bool.and_eq_true, List.all_eq_true] at h
      exact h.2.1 k hk
     ·cases h
theorem okN_kids {op name : List Nat} {n a : Int} {kids : List Nd} (h : okN (.mk op name n a kids)) : ∀ k ∈ kids, okN k := by
 intro k hk
 rcases h with h | h
 ·rw [formN_mk] at h
  split at h
  ·exact (len0' (bare0 h) hk).elim
  ·split at h
   ·simp only [Bool.and_eq_true] at h
    exact .inl (all_mem h.2 hk)
   ·split at h
    ·simp only [Bool.and_eq_true] at h
     exact .inl (all_mem h.2 hk)
    ·split at h
     ·simp only [Bool.and_eq_true] at h
      exact .inl (all_mem h.2.2.2.2 hk)
     ·split at h
      ·simp only [Bool.and_eq_true, decide_eq_true_eq] at h
       exact (len0' h.2.2 hk).elim
      ·split at h
       ·simp only [Bool.and_eq_true] at h
        exact .inr (all_mem h.2 hk)
       ·split at h
        ·simp only [Bool.and_eq_true] at h
         exact .inr (all_mem h.2.2.2 hk)
        ·cases h
 ·exact .inr (termN_kids h k hk)
theorem okN_bare {x : Nd} (h : okN x) : bareN x = true := h.elim (formN_bare x) (termN_bare x)
theorem okN_leaf {op name : List Nat} {n a : Int} {kids : List Nd} (h : okN (.mk op name n a kids)) (hv : op = [118, 97, 114] ∨ op = [105, 115]) : kids = [] := by
 have := okN_bare h
 rw [bareN_mk, Bool.and_eq_true] at this
 have h1 : (decide (op = [118, 97, 114]) || decide (op = [105, 115])) = true := by simpa using hv
 have h2 := this.1
 rw [h1] at h2
 simpa using h2
theorem okN_bind {op name : List Nat} {n a : Int} {kids : List Nd} (h : okN (.mk op name n a kids)) (hv : op = [101, 120] ∨ op = [97, 108, 108]) : ∃ k, kids = [k] := by
 have hl : ((kids.length : Nat) : Int) = 1 := by
  rcases h with h | h
  ·rw [formN_mk] at h
   rw [if_neg (by rcases hv with rfl | rfl <;> decide), if_neg (by rcases hv with rfl | rfl <;> decide), if_neg (by rcases hv with rfl | rfl <;> decide), if_pos (by rcases hv with rfl | rfl <;> decide)] at h
   simp only [Bool.and_eq_true, decide_eq_true_eq] at h
   exact h.2.2.2.1
  ·exfalso
   rw [termN_mk] at h
   rw [if_neg (by rcases hv with rfl | rfl <;> decide), if_neg (by rcases hv with rfl | rfl <;> decide), if_neg (by rcases hv with rfl | rfl <;> decide), if_neg (by rcases hv with rfl | rfl <;> decide), if_neg (by rcases hv with rfl | rfl <;> decide)] at h
   cases h
 match kids, hl with
 | [k], _ => exact ⟨k, rfl⟩
 | [], h => simp at h
 | _ :: _ :: l, h => exfalso; simp at h; omega
theorem joinN_id {op name : List Nat} {n a : Int} {kids : List Nd} (h : okN (.mk op name n a kids)) : joinN op name n a kids = .mk op name n a kids := by
 unfold joinN
 split
 ·rename_i hp
  subst hp
  rcases h with h | h
  ·exact (formN_plus h).elim
  ·obtain ⟨k, rfl, hk, _⟩ := termN_plus h rfl
   simp only [hk]
   rw [if_neg (by decide), if_neg (by decide)]
 ·rfl
/-- Nothing put. -/
theorem put_none (cnt : List Nat → Int) (x : Nd) : okN x → putN cnt x [] [] = x := by
  refine nd_rec (M := fun x => okN x → putN cnt x [] [] = x) (fun op name n a kids ih h => ?_) x
  have hk : putL cnt kids [] [] = kids := by
    rw [putL_map]
    conv => rhs; rw [← List.map_id kids]
    exact List.map_congr_left fun k hk => ih k hk (okN_kids h k hk)
  rw [putN, lookT_nil, boundX_none]
  rw [if_neg (by simp), if_neg (by simp)]
  simp only [hk]
  split
  · rfl
  · exact joinN_id h
theorem freeN_var (s : List Nat) (z a : Int) (hs : Bytes s) : ∀ x, x ∈ freeN (.mk [118, 97, 114] s z a []) ↔ x = s := by
 intro x
 unfold freeN
 have : namesN (.mk [118, 97, 114] s z a []) [] = [s] := by rw [namesN, if_pos (.inl rfl), if_neg (by simp [inB])]
 rw [this, sc_mem (by simpa using hs)]
 simp
/-- Each look-up yields the same as the one look-up of name. -/
theorem look_rep {name : List Nat} {t : Nd} : ∀ (ps : List (List Nat × Nd)), (∀ p ∈ ps, p = (name, t)) → ∀ s, lookT (ps.map Prod.fst) (ps.map Prod.snd) s = if ps ≠ [] ∧ s = name then some t else none := by
  intro ps
  induction ps with
  | nil => intro _ s; simp [lookT_nil]
  | cons p ps ih =>
    intro h s
    have hp := h p (List.mem_cons_self ..)
    subst hp
    rw [List.map_cons, List.map_cons, lookT]
    by_cases e : name = s
    · rw [if_pos e, if_pos ⟨by simp, e.symm⟩]
    · rw [if_neg e, ih (fun p hp => h p (List.mem_cons_of_mem _ hp)), if_neg fun h => e h.2.symm, if_neg fun h => e h.2.symm]
/-- A name put by itself. -/
theorem put_self (cnt : List Nat → Int) (name : List Nat) (hs : Bytes name) (x : Nd) : okN x → ∀ ps : List (List Nat × Nd), (∀ p ∈ ps, p = (name, Nd.mk [118, 97, 114] name 0 0 [])) → putN cnt x (ps.map Prod.fst) (ps.map Prod.snd) = x := by
  refine nd_rec (M := fun x => okN x → ∀ ps : List (List Nat × Nd), (∀ p ∈ ps, p = (name, Nd.mk [118, 97, 114] name 0 0 [])) → putN cnt x (ps.map Prod.fst) (ps.map Prod.snd) = x) (fun op nm n a kids ih h ps hps => ?_) x
  have hk : ∀ ps : List (List Nat × Nd), (∀ p ∈ ps, p = (name, Nd.mk [118, 97, 114] name 0 0 [])) → putL cnt kids (ps.map Prod.fst) (ps.map Prod.snd) = kids := by
    intro ps hps
    rw [putL_map]
    conv => rhs; rw [← List.map_id kids]
    exact List.map_congr_left fun k hk => ih k hk (okN_kids h k hk) ps hps
  rw [putN]
  split
  · rename_i hv
    obtain ⟨rfl, hv⟩ := hv
    rw [look_rep ps hps] at hv ⊢
    split at hv
    · rename_i hh
      obtain ⟨h1, rfl⟩ := hh
      rw [if_pos ⟨h1, rfl⟩]
      have hl := okN_leaf h (.inl rfl)
      subst hl
      show Nd.mk [118, 97, 114] nm 0 a [] = _
      have hn : n = 0 := by
        rcases h with h | h
        · rw [formN_mk] at h
          rw [if_neg (by decide), if_neg (by decide), if_neg (by decide), if_neg (by decide), if_neg (by decide), if_neg (by decide), if_neg (by decide)] at h
          cases h
        · rw [termN_mk, if_pos (by decide)] at h
          simp only [Bool.and_eq_true, decide_eq_true_eq] at h
          exact h.2.1
      rw [hn]
    · cases hv
  · split
    · rename_i hv
      obtain ⟨rfl, hv⟩ := hv
      rw [look_rep ps hps] at hv ⊢
      split at hv
      · rename_i hh
        obtain ⟨h1, rfl⟩ := hh
        rw [if_pos ⟨h1, rfl⟩]
        rfl
      · cases hv
    · split
      · have hb : ∃ qs : List (List Nat × Nd), (∀ p ∈ qs, p = (name, Nd.mk [118, 97, 114] name 0 0 [])) ∧ boundX cnt nm kids (ps.map Prod.fst) (ps.map Prod.snd) = ⟨nm, qs.map Prod.fst, qs.map Prod.snd⟩ := by
          have ho : ∀ p ∈ onlyN (ps.map Prod.fst) (ps.map Prod.snd) nm (freeK kids), p = (name, Nd.mk [118, 97, 114] name 0 0 []) ∧ name ≠ nm := by
            intro p hp
            obtain ⟨s, _, h⟩ := List.mem_filterMap.1 hp
            split at h
            · cases h
            · rename_i hne
              rw [look_rep ps hps, Option.map_eq_some_iff] at h
              obtain ⟨t', h1, rfl⟩ := h
              split at h1
              · rename_i hh
                obtain ⟨_, rfl⟩ := hh
                injection h1 with h1
                subst h1
                exact ⟨rfl, hne⟩
              · cases h1
          refine ⟨onlyN (ps.map Prod.fst) (ps.map Prod.snd) nm (freeK kids), fun p hp => (ho p hp).1, ?_⟩
          unfold boundX
          have : (onlyN (ps.map Prod.fst) (ps.map Prod.snd) nm (freeK kids)).any (fun p => inB nm (freeN p.2)) = false := by
            rw [List.any_eq_false]
            intro p hp
            obtain ⟨rfl, hne⟩ := ho p hp
            rw [mem_inB, freeN_var _ _ _ hs]
            exact fun e => hne e.symm
          simp only [this]
          rfl
        obtain ⟨qs, h1, h2⟩ := hb
        rw [h2]
        show Nd.mk op nm n a (putL cnt kids (qs.map Prod.fst) (qs.map Prod.snd)) = _
        rw [hk qs h1]
      · rw [hk ps hps]
        exact joinN_id h
end Go.Proofs.YtmjnbdkjekdkgaaDoor
