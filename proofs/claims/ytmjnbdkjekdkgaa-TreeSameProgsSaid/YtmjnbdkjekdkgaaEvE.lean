/-
  A reckoner for closed calls: one class of its memory changes.
-/
import Derived.Test.YtmjnbdkjekdkgaaEvD
import Derived.Laws.CopyRow
namespace Go.Proofs.Ytmjnbdkjekdkgaa
open Go
set_option linter.unusedVariables false
set_option linter.unusedSimpArgs false

/-- Memory with one class laid anew. -/
def upd (h : Hp) (c : Nat) (C : Cls) : Hp := fun x => if x = c then some C else h x
theorem upd_self (h : Hp) (c : Nat) (C : Cls) : upd h c C c = some C := if_pos rfl
theorem upd_ne (h : Hp) {c x : Nat} (C : Cls) (hx : x ≠ c) : upd h c C x = h x := if_neg hx
theorem set_upd (t : Tr Cls) (c : Nat) (C : Cls) : (t.set c C).get = upd t.get c C := by funext x; exact Tr.get_set t c C x
theorem grow_upd {h : Hp} {c : Nat} {C' : Cls} (hpre : ∀ C, h c = some C → exts C <+: exts C') : Grow h (upd h c C') := by
  intro x C hx
  by_cases hxc : x = c
  · subst hxc
    exact ⟨C', upd_self _ _ _, hpre C hx⟩
  · exact ⟨C, by rw [upd_ne _ _ hxc]; exact hx, List.prefix_refl _⟩

theorem ClsAt.keep {n0 : Nat} {p p' : Pls} {h h' : Hp} {w w' : World} {c : Nat} {C : Cls} (H : ClsAt n0 p h w c C) (hc : Cov p h) (hl : Pls.le p p') (hg : Grow h h') (hs : ∀ m x, p' c m = some x → p c m = some x)
    (hb : ∀ m x, p c m = some x → w'.heap[x.b]? = w.heap[x.b]?) : ClsAt n0 p' h' w' c C := by
  cases C with
  | row ro ms =>
    refine ⟨fun m e vs cs hm => ?_, fun m e vs cs m' e' vs' cs' q q' h1 h2 h3 h4 h5 => H.same m e vs cs m' e' vs' cs' q q' h1 h2 (hs m q h3) (hs m' q' h4) h5⟩
    obtain ⟨q, arr, el, hq, hw, h1, h2, h3, h4⟩ := H.mem m e vs cs hm
    refine ⟨q, arr, el, hl c m q hq, hw.keep (hb m q hq), h1, h2, h3, fun l hcs => ?_⟩
    obtain ⟨k1, k2⟩ := h4 l hcs
    refine ⟨k1, fun j v hj => ?_⟩
    obtain ⟨j1, j2, j3⟩ := k2 j v hj
    exact ⟨by rw [conc_le hc hl v j2]; exact j1, WF.grow hg v j2, j3⟩
  | iter s r pos =>
    obtain ⟨q, hq, hw, h1⟩ := H
    exact ⟨q, hl c 0 q hq, (hb 0 q hq).trans hw, h1⟩
  | map es k => exact H.elim

/-- One class changes, or comes: all else stays. -/
theorem HR.turn {w0 : World} {p p' : Pls} {h : Hp} {w w' : World} {c : Nat} {C' : Cls} (H : HR w0 p h w)
    (hos : w'.os = w.os) (htape : w'.tape = w.tape) (hout : w'.output = w.output) (hsize : w.heap.size ≤ w'.heap.size)
    (hle : Pls.le p p') (honly : ∀ c' m x, p' c' m = some x → p c' m = some x ∨ c' = c)
    (hblk : ∀ b, b < w.heap.size → (∀ m x, p c m = some x → x.b ≠ b) → w'.heap[b]? = w.heap[b]?)
    (hold : ∀ b, b < w0.heap.size → w'.heap[b]? = w.heap[b]?)
    (hnew : ∀ m x, p' c m = some x → p c m = none → x.b < w'.heap.size ∧ (w.heap.size ≤ x.b ∨ ∃ m0 x0, p c m0 = some x0 ∧ x0.b = x.b))
    (hdom : ∀ m x, p' c m = some x → m < (exts C').length)
    (hpre : ∀ C, h c = some C → exts C <+: exts C')
    (hcls : ClsAt w0.heap.size p' (upd h c C') w' c C') : Step w0 p w p' (upd h c C') w' := by
  have hg : Grow h (upd h c C') := grow_upd hpre
  refine ⟨hle, ⟨hos.trans H.os, htape.trans H.tape, hout.trans H.output, Nat.le_trans H.size hsize, fun b hb => (hold b hb).trans (H.old b hb), ?_, ?_, ?_, ?_⟩, ⟨hsize, fun b hb hn => hblk b hb fun m x hx => hn c m x hx⟩, ?_⟩
  · intro c1 m x hx
    by_cases hc1 : c1 = c
    · subst hc1; exact ⟨C', upd_self _ _ _, hdom m x hx⟩
    · rcases honly c1 m x hx with h1 | h1
      · obtain ⟨C, hC, hm⟩ := H.dom c1 m x h1
        exact ⟨C, by rw [upd_ne _ _ hc1]; exact hC, hm⟩
      · exact absurd h1 hc1
  · intro c1 m x hx
    cases hp : p c1 m with
    | some y =>
      have := hle c1 m y hp
      rw [hx] at this
      injection this with this
      subst this
      exact Nat.lt_of_lt_of_le (H.lt c1 m x hp) hsize
    | none =>
      rcases honly c1 m x hx with h1 | rfl
      · rw [hp] at h1; cases h1
      · exact (hnew m x hx hp).1
  · -- blocks of two classes are two
    have key : ∀ m x c' m' x', p' c m = some x → p' c' m' = some x' → x.b = x'.b → c' ≠ c → False := by
      intro m x c' m' x' hx hx' hb hne
      have hp' : p c' m' = some x' := (honly c' m' x' hx').resolve_right hne
      cases hp : p c m with
      | some y =>
        have := hle c m y hp
        rw [hx] at this
        injection this with this
        subst this
        exact hne (H.apart c m x c' m' x' hp hp' hb).symm
      | none =>
        rcases (hnew m x hx hp).2 with h1 | ⟨m0, x0, h1, h2⟩
        · have := H.lt c' m' x' hp'; omega
        · exact hne (H.apart c m0 x0 c' m' x' h1 hp' (h2.trans hb)).symm
    intro c1 m x c2 m' x' hx hx' hb
    by_cases h1 : c1 = c
    · by_cases h2 : c2 = c
      · rw [h1, h2]
      · subst h1; exact absurd (key m x c2 m' x' hx hx' hb h2) id
    · by_cases h2 : c2 = c
      · subst h2; exact absurd (key m' x' c1 m x hx' hx hb.symm h1) id
      · exact H.apart c1 m x c2 m' x' ((honly c1 m x hx).resolve_right h1) ((honly c2 m' x' hx').resolve_right h2) hb
  · intro c1 C hC
    by_cases hc1 : c1 = c
    · subst hc1
      rw [upd_self] at hC
      injection hC with hC
      subst hC
      exact hcls
    · rw [upd_ne _ _ hc1] at hC
      refine (H.cls c1 C hC).keep H.cov hle hg (fun m x hx => (honly c1 m x hx).resolve_right hc1) fun m x hx => ?_
      exact hblk x.b (H.lt c1 m x hx) fun m' y hy hb => hc1 (H.apart c m' y c1 m x hy hx hb).symm
  · intro c1 m x hx hn
    rcases honly c1 m x hx with h1 | rfl
    · rw [hn] at h1; cases h1
    · exact (hnew m x hx hn).2

/-- A class that comes: its one member lies in the block that comes. -/
def plNew (p : Pls) (c n e : Nat) : Pls := fun x m => if x = c ∧ m = 0 then some ⟨n, 0, e⟩ else p x m
theorem plNew_self (p : Pls) (c n e : Nat) : plNew p c n e c 0 = some ⟨n, 0, e⟩ := if_pos ⟨rfl, rfl⟩
theorem HR.unplaced {w0 : World} {p : Pls} {h : Hp} {w : World} (H : HR w0 p h w) {c : Nat} (hc : h c = none) (m : Nat) : p c m = none := by
  cases hp : p c m with
  | none => rfl
  | some x =>
    obtain ⟨C, hC, _⟩ := H.dom c m x hp
    rw [hc] at hC
    cases hC
theorem plNew_le {w0 : World} {p : Pls} {h : Hp} {w : World} (H : HR w0 p h w) {c : Nat} (hc : h c = none) (n e : Nat) : Pls.le p (plNew p c n e) := by
  intro x m y hy
  unfold plNew
  rw [if_neg]
  · exact hy
  · rintro ⟨rfl, rfl⟩
    rw [H.unplaced hc 0] at hy
    cases hy
theorem HR.come {w0 : World} {p : Pls} {h : Hp} {w : World} {c : Nat} (H : HR w0 p h w) (hc : h c = none) (o : Obj) (e : Nat) (C' : Cls) (hx : (exts C').length = 1)
    (hcls : ClsAt w0.heap.size (plNew p c w.heap.size e) (upd h c C') (w.alloc o) c C') :
    Step w0 p w (plNew p c w.heap.size e) (upd h c C') (w.alloc o) := by
  refine H.turn rfl rfl rfl (by simp) (plNew_le H hc _ _) ?_ ?_ ?_ ?_ ?_ ?_ hcls
  · intro c' m x hx
    unfold plNew at hx
    split at hx
    · rename_i hh; exact .inr hh.1
    · exact .inl hx
  · intro b hb _
    exact alloc_keep w o hb
  · intro b hb
    exact alloc_keep w o (Nat.lt_of_lt_of_le hb H.size)
  · intro m x hx _
    unfold plNew at hx
    split at hx
    · injection hx with hx; subst hx; exact ⟨by simp, .inl (Nat.le_refl _)⟩
    · rw [H.unplaced hc m] at hx; cases hx
  · intro m x hx
    unfold plNew at hx
    split at hx
    · rename_i hh; rw [hh.2, ‹(exts C').length = 1›]; decide
    · rw [H.unplaced hc m] at hx; cases hx
  · intro C hC
    rw [hc] at hC
    cases hC

/-- A new row, in a block that may be longer. -/
theorem HR.newRow {w0 : World} {p : Pls} {h : Hp} {w : World} {c : Nat} (H : HR w0 p h w) (hc : h c = none) (l : List AV) (arr : Array Value) (el : TypeId) (hl : WFL h l) (ho : ∀ v ∈ l, isCell v = true)
    (hsz : l.length ≤ arr.size) (hval : ∀ (j : Nat) (v : AV), l[j]? = some v → arr[j]? = some (conc p v)) :
    Step w0 p w (plNew p c w.heap.size arr.size) (upd h c (.row false [(l.length, 0, some l)])) (w.alloc (.cells arr el)) := by
  have hg : Grow h (upd h c (.row false [(l.length, 0, some l)])) := grow_upd fun C hC => by rw [hc] at hC; cases hC
  refine H.come hc _ _ _ rfl ⟨fun m e vs cs hm => ?_, fun m e vs cs m' e' vs' cs' q q' h1 h2 h3 h4 _ => ?_⟩
  · cases m with
    | succ m => simp at hm
    | zero =>
      simp at hm
      obtain ⟨rfl, rfl, rfl⟩ := hm
      refine ⟨_, _, el, plNew_self _ _ _ _, .of (heap_alloc_new w _), ?_, hsz, fun _ => H.size, fun l' hl' => ?_⟩
      · simp
      · injection hl' with hl'
        subst hl'
        refine ⟨rfl, fun j v hj => ?_⟩
        have hv := hl.get hj
        refine ⟨?_, WF.grow hg v hv, ho v (List.mem_of_getElem? hj)⟩
        rw [conc_le H.cov (plNew_le H hc _ _) v hv, Nat.zero_add]
        exact hval j v hj
  · cases m with
    | succ m => simp at h1
    | zero => cases m' with
      | succ m' => simp at h2
      | zero =>
        simp at h1 h2
        obtain ⟨_, rfl, _⟩ := h1
        obtain ⟨_, rfl, _⟩ := h2
        rw [h3] at h4
        injection h4 with h4
        rw [h4]

/-- A range over a text begins. -/
theorem HR.newIter {w0 : World} {p : Pls} {h : Hp} {w : World} {c : Nat} (H : HR w0 p h w) (hc : h c = none) (s : List Nat) (hs : Bytes s) :
    Step w0 p w (plNew p c w.heap.size 1) (upd h c (.iter s s 0)) (w.alloc (.stringIter (bytesOf s) 0)) :=
  H.come hc _ _ _ rfl ⟨_, plNew_self _ _ _ _, heap_alloc_new w _, rfl, hs, H.size, rfl, Nat.le_refl _⟩
/-- It goes on. -/
theorem HR.nextIter {w0 : World} {p : Pls} {h : Hp} {w : World} {c : Nat} (H : HR w0 p h w) {s r : List Nat} {pos : Nat} (hc : h c = some (.iter s r pos)) (q : Pl) (hq : p c 0 = some q) (pos' : Nat) :
    Step w0 p w p (upd h c (.iter s (s.drop pos') pos')) { w with heap := w.heap.setIfInBounds q.b (.stringIter (bytesOf s) pos') } := by
  obtain ⟨q', hq', hw, hr, hs, hn, hd, h1e⟩ := H.cls c _ hc
  rw [hq] at hq'
  injection hq' with hq'
  subst hq'
  have hlt : q.b < w.heap.size := H.lt c 0 q hq
  have hone : ∀ m x, p c m = some x → x = q := fun m x hx => by
    obtain ⟨C, hC, hm⟩ := H.dom c m x hx
    rw [hc] at hC
    injection hC with hC
    subst hC
    simp [exts] at hm
    subst hm
    rw [hq] at hx
    injection hx with hx
    exact hx.symm
  refine H.turn rfl rfl rfl (by simp) (fun _ _ _ hx => hx) (fun _ _ _ hx => .inl hx) ?_ ?_ ?_ ?_ ?_ ?_
  · intro b hb hx
    have := hx 0 q hq
    simp [Array.getElem?_setIfInBounds_ne this]
  · intro b hb
    have : q.b ≠ b := by omega
    simp [Array.getElem?_setIfInBounds_ne this]
  · intro m x hx hnn; rw [hx] at hnn; cases hnn
  · intro m x hx
    obtain ⟨C, hC, hm⟩ := H.dom c m x hx
    rw [hc] at hC
    injection hC with hC
    subst hC
    exact hm
  · intro C hC
    rw [hc] at hC
    injection hC with hC
    subst hC
    exact List.prefix_refl _
  · exact ⟨q, hq, by simp [hlt], rfl, hs, hn, hd, h1e⟩

/-- What is told of members: some may have died. -/
def Told (ms ms' : List (Nat × Nat × Option (List AV))) : Prop := ms'.length = ms.length ∧ ∀ (m e vs : Nat) (cs : Option (List AV)), ms'[m]? = some (e, vs, cs) → ∃ cs0 : Option (List AV), ms[m]? = some (e, vs, cs0)
theorem Told.exts {ms ms' : List (Nat × Nat × Option (List AV))} (h : Told ms ms') : ms'.map Prod.fst = ms.map Prod.fst := by
  apply List.ext_getElem?
  intro m
  rw [List.getElem?_map, List.getElem?_map]
  cases hm : ms'[m]? with
  | none =>
    have : ms[m]? = none := by
      rw [List.getElem?_eq_none_iff] at hm ⊢
      rw [← h.1]; exact hm
    rw [this]
  | some x =>
    obtain ⟨e, vs, cs⟩ := x
    obtain ⟨cs0, h0⟩ := h.2 m e vs cs hm
    rw [h0]
    rfl

/-- A block of a class is written: what is told of it still is told rightly. -/
theorem HR.over {w0 : World} {p : Pls} {h : Hp} {w : World} {c : Nat} (H : HR w0 p h w) {ms ms' : List (Nat × Nat × Option (List AV))} (hc : h c = some (.row false ms)) (ht : Told ms ms')
    {b : Nat} {arr arr' : Array Value} {el : TypeId} (hb : w.heap[b]? = some (.cells arr el (0, 0))) (hsz : arr'.size = arr.size) {m0 : Nat} {q0 : Pl} (hq0 : p c m0 = some q0) (hb0 : q0.b = b)
    (hlive : ∀ m e vs l q, ms'[m]? = some (e, vs, some l) → p c m = some q → (q.b = b → l.length = e ∧ ∀ j v, l[j]? = some v → arr'[q.d + j]? = some (conc p v) ∧ WF h v ∧ isCell v = true) ∧ (q.b ≠ b → ms[m]? = some (e, vs, some l))) :
    Step w0 p w p (upd h c (.row false ms')) (w.setRow b arr') := by
  have hlen : (exts (.row false ms')) = exts (.row false ms) := ht.exts
  have hR := H.cls c _ hc
  have hg : Grow h (upd h c (.row false ms')) := grow_upd fun C hC => by
    rw [hc] at hC; injection hC with hC; subst hC; rw [hlen]; exact List.prefix_refl _
  have hn0 : w0.heap.size ≤ b := by
    obtain ⟨C, hC, hm⟩ := H.dom c m0 q0 hq0
    rw [hc] at hC; injection hC with hC; subst hC
    simp only [exts, List.length_map] at hm
    obtain ⟨q, arr1, el1, h1, _, _, _, h5, _⟩ := hR.mem m0 _ _ _ (List.getElem?_eq_getElem hm)
    rw [hq0] at h1; injection h1 with h1; subst h1
    rw [← hb0]; exact h5 rfl
  have hset : (w.setRow b arr').heap[b]? = some (.cells arr' el (0, 0)) := setRow_heap w b arr arr' el (0, 0) hb
  have hoth : ∀ k, k ≠ b → (w.setRow b arr').heap[k]? = w.heap[k]? := fun k hk => setRow_other w b k arr' hk
  refine H.turn rfl rfl rfl (by simp [World.setRow]) (fun _ _ _ hx => hx) (fun _ _ _ hx => .inl hx) (fun k hk hx => hoth k fun e => hx m0 q0 hq0 (by omega)) (fun k hk => hoth k (by omega)) ?_ ?_ ?_ ⟨?_, ?_⟩
  · intro m x hx hn; rw [hx] at hn; cases hn
  · intro m x hx
    obtain ⟨C, hC, hm⟩ := H.dom c m x hx
    rw [hc] at hC; injection hC with hC; subst hC
    rw [hlen]; exact hm
  · intro C hC
    rw [hc] at hC; injection hC with hC; subst hC; rw [hlen]; exact List.prefix_refl _
  · intro m e vs cs hm
    obtain ⟨cs0, h0⟩ := ht.2 m e vs cs hm
    obtain ⟨q, arr1, el1, h1, h2, h3, h4, h5, h6⟩ := hR.mem m e vs cs0 h0
    by_cases hqb : q.b = b
    · have : arr1.size = arr.size := by have h2 := h2.own; rw [hqb, hb] at h2; injection h2 with h2; injection h2 with h2; rw [h2]
      refine ⟨q, arr', el, h1, by rw [hqb]; exact .of hset, by omega, h4, h5, fun l hl => ?_⟩
      subst hl
      obtain ⟨k1, k2⟩ := (hlive m e vs l q hm h1).1 hqb
      refine ⟨k1, fun j v hj => ?_⟩
      obtain ⟨j1, j2, j3⟩ := k2 j v hj
      exact ⟨j1, WF.grow hg v j2, j3⟩
    · refine ⟨q, arr1, el1, h1, h2.keep (hoth q.b hqb), h3, h4, h5, fun l hl => ?_⟩
      subst hl
      have := (hlive m e vs l q hm h1).2 hqb
      rw [h0] at this
      injection this with this
      injection this with _ this
      injection this with _ this
      obtain ⟨k1, k2⟩ := h6 l this
      refine ⟨k1, fun j v hj => ?_⟩
      obtain ⟨j1, j2, j3⟩ := k2 j v hj
      exact ⟨j1, WF.grow hg v j2, j3⟩
  · intro m e vs cs m' e' vs' cs' q q' h1 h2 h3 h4 h5
    obtain ⟨cs0, k1⟩ := ht.2 m e vs cs h1
    obtain ⟨cs0', k2⟩ := ht.2 m' e' vs' cs' h2
    exact hR.same m e vs cs0 m' e' vs' cs0' q q' k1 k2 h3 h4 h5

/-- A class gains a member: in a block of its own, or in one of its blocks. -/
def plMem (p : Pls) (c m : Nat) (q : Pl) : Pls := fun x k => if x = c ∧ k = m then some q else p x k
theorem HR.gain {w0 : World} {p : Pls} {h : Hp} {w : World} {c : Nat} (H : HR w0 p h w) {ms : List (Nat × Nat × Option (List AV))} (hc : h c = some (.row false ms)) (q : Pl) (vs : Nat) (l : List AV)
    {arr : Array Value} {el : TypeId} (hb : w.heap[q.b]? = some (.cells arr el (0, 0))) (hfit : q.d + q.e ≤ arr.size) (hl : l.length ≤ q.e) (hn : w0.heap.size ≤ q.b) (hwf : WFL h l) (hcell : ∀ v ∈ l, isCell v = true)
    (hval : ∀ j v, l[j]? = some v → arr[q.d + j]? = some (conc p v))
    (hwh : (∀ c' m x, p c' m = some x → x.b ≠ q.b) ∨ (∃ m0 q0, p c m0 = some q0 ∧ q0.b = q.b))
    (hsame : ∀ m e vs' cs q', ms[m]? = some (e, vs', cs) → p c m = some q' → q'.b = q.b → q'.d + vs = q.d + vs') :
    HR w0 (plMem p c ms.length q) (upd h c (.row false (ms ++ [(l.length, vs, some l)]))) w ∧ Pls.le p (plMem p c ms.length q) := by
  have hR := H.cls c _ hc
  have hnone : p c ms.length = none := by
    cases hp : p c ms.length with
    | none => rfl
    | some x =>
      obtain ⟨C, hC, hm⟩ := H.dom c ms.length x hp
      rw [hc] at hC; injection hC with hC; subst hC
      simp [exts] at hm
  have hle : Pls.le p (plMem p c ms.length q) := by
    intro x m y hy
    unfold plMem
    rw [if_neg]
    · exact hy
    · rintro ⟨rfl, rfl⟩
      rw [hnone] at hy
      cases hy
  have hself : plMem p c ms.length q c ms.length = some q := if_pos ⟨rfl, rfl⟩
  have honly : ∀ c' m x, plMem p c ms.length q c' m = some x → p c' m = some x ∨ (c' = c ∧ m = ms.length ∧ x = q) := by
    intro c' m x hx
    unfold plMem at hx
    split at hx
    · rename_i hh; injection hx with hx; exact .inr ⟨hh.1, hh.2, hx.symm⟩
    · exact .inl hx
  have hg : Grow h (upd h c (.row false (ms ++ [(l.length, vs, some l)]))) := grow_upd fun C hC => by
    rw [hc] at hC; injection hC with hC; subst hC; simp [exts]
  have hblt : q.b < w.heap.size := (Array.getElem?_eq_some_iff.1 hb).1
  have hfrom : ∀ c' m x, p c' m = some x → x.b = q.b → c' = c := by
    intro c' m x hx hxb
    rcases hwh with h1 | ⟨m0, q0, h1, h2⟩
    · exact absurd hxb (h1 c' m x hx)
    · exact H.apart c' m x c m0 q0 hx h1 (hxb.trans h2.symm)
  refine ⟨⟨H.os, H.tape, H.output, H.size, H.old, ?_, ?_, ?_, ?_⟩, hle⟩
  · intro c1 m x hx
    rcases honly c1 m x hx with h1 | ⟨rfl, rfl, rfl⟩
    · obtain ⟨C, hC, hm⟩ := H.dom c1 m x h1
      by_cases hc1 : c1 = c
      · subst hc1
        rw [hc] at hC; injection hC with hC; subst hC
        exact ⟨_, upd_self _ _ _, by simp [exts] at hm ⊢; omega⟩
      · exact ⟨C, by rw [upd_ne _ _ hc1]; exact hC, hm⟩
    · exact ⟨_, upd_self _ _ _, by simp [exts]⟩
  · intro c1 m x hx
    rcases honly c1 m x hx with h1 | ⟨rfl, rfl, rfl⟩
    · exact H.lt c1 m x h1
    · exact hblt
  · intro c1 m x c2 m' x' hx hx' hb'
    rcases honly c1 m x hx with h1 | ⟨rfl, rfl, rfl⟩
    · rcases honly c2 m' x' hx' with h2 | ⟨rfl, rfl, rfl⟩
      · exact H.apart c1 m x c2 m' x' h1 h2 hb'
      · exact hfrom c1 m x h1 hb'
    · rcases honly c2 m' x' hx' with h2 | ⟨rfl, rfl, rfl⟩
      · exact (hfrom c2 m' x' h2 hb'.symm).symm
      · rfl
  · intro c1 C hC
    by_cases hc1 : c1 = c
    · subst hc1
      rw [upd_self] at hC
      injection hC with hC
      subst hC
      refine ⟨fun m e vs' cs hm => ?_, fun m e vs1 cs m' e' vs2 cs' q1 q2 h1 h2 h3 h4 h5 => ?_⟩
      · rcases Nat.lt_or_ge m ms.length with hml | hml
        · rw [List.getElem?_append_left hml] at hm
          obtain ⟨q1, arr1, el1, k1, k2, k3, k4, k5, k6⟩ := hR.mem m e vs' cs hm
          refine ⟨q1, arr1, el1, hle c1 m q1 k1, k2, k3, k4, k5, fun l' hl' => ?_⟩
          obtain ⟨i1, i2⟩ := k6 l' hl'
          refine ⟨i1, fun j v hj => ?_⟩
          obtain ⟨j1, j2, j3⟩ := i2 j v hj
          exact ⟨by rw [conc_le H.cov hle v j2]; exact j1, WF.grow hg v j2, j3⟩
        · rw [List.getElem?_append_right hml] at hm
          cases hk : m - ms.length with
          | succ k => rw [hk] at hm; simp at hm
          | zero =>
            rw [hk] at hm
            simp at hm
            obtain ⟨rfl, rfl, rfl⟩ := hm
            have hme : m = ms.length := by omega
            subst hme
            refine ⟨q, arr, el, hself, .of hb, hfit, hl, fun _ => hn, fun l' hl' => ?_⟩
            injection hl' with hl'
            subst hl'
            refine ⟨rfl, fun j v hj => ?_⟩
            have hv := hwf.get hj
            exact ⟨by rw [conc_le H.cov hle v hv]; exact hval j v hj, WF.grow hg v hv, hcell v (List.mem_of_getElem? hj)⟩
      · have last : ∀ m e v2 cs, (ms ++ [(l.length, vs, some l)])[m]? = some (e, v2, cs) → ¬ m < ms.length → m = ms.length ∧ v2 = vs := by
          intro m e v2 cs hm hml
          rw [List.getElem?_append_right (by omega)] at hm
          cases hk : m - ms.length with
          | succ k => rw [hk] at hm; simp at hm
          | zero => rw [hk] at hm; simp at hm; exact ⟨by omega, hm.2.1.symm⟩
        have back : ∀ m x, plMem p c1 ms.length q c1 m = some x → m < ms.length → p c1 m = some x := fun m x hx hm => by
          rcases honly c1 m x hx with h | ⟨_, h, _⟩
          · exact h
          · omega
        by_cases a1 : m < ms.length
        · rw [List.getElem?_append_left a1] at h1
          by_cases a2 : m' < ms.length
          · rw [List.getElem?_append_left a2] at h2
            exact hR.same m e vs1 cs m' e' vs2 cs' q1 q2 h1 h2 (back m q1 h3 a1) (back m' q2 h4 a2) h5
          · obtain ⟨rfl, rfl⟩ := last m' e' vs2 cs' h2 a2
            rw [hself] at h4
            injection h4 with h4
            subst h4
            exact hsame m e vs1 cs q1 h1 (back m q1 h3 a1) h5
        · obtain ⟨rfl, rfl⟩ := last m e vs1 cs h1 a1
          rw [hself] at h3
          injection h3 with h3
          subst h3
          by_cases a2 : m' < ms.length
          · rw [List.getElem?_append_left a2] at h2
            have := hsame m' e' vs2 cs' q2 h2 (back m' q2 h4 a2) h5.symm
            omega
          · obtain ⟨rfl, rfl⟩ := last m' e' vs2 cs' h2 a2
            rw [hself] at h4
            injection h4 with h4
            subst h4
            rfl
    · rw [upd_ne _ _ hc1] at hC
      exact (H.cls c1 C hC).keep H.cov hle hg (fun m x hx => (honly c1 m x hx).resolve_right fun hh => hc1 hh.1) fun _ _ _ => rfl

/-- Room enough for what is there. -/
theorem HR.room {w0 : World} {p : Pls} {h : Hp} {w : World} (H : HR w0 p h w) (c m : Nat) (C : Cls) (e : Nat) (hc : h c = some C) (hm : (exts C)[m]? = some e) : ∃ q, p c m = some q ∧ e ≤ q.e := by
  have := H.cls c C hc
  cases C with
  | row ro ms =>
    simp only [exts, List.getElem?_map] at hm
    cases hk : ms[m]? with
    | none => rw [hk] at hm; cases hm
    | some x =>
      obtain ⟨a, b, d⟩ := x
      rw [hk] at hm
      injection hm with hm
      simp only at hm
      subst hm
      obtain ⟨q, _, _, h1, _, _, h2, _⟩ := this.mem m a b d hk
      exact ⟨q, h1, h2⟩
  | iter s r pos =>
    obtain ⟨q, hq, _, _, _, _, _, h1⟩ := this
    cases m with
    | zero => simp [exts] at hm; subst hm; exact ⟨q, hq, h1⟩
    | succ m => simp [exts] at hm
  | map es k => exact this.elim

/-- Waste. -/
theorem HR.waste {w0 : World} {p : Pls} {h : Hp} {w : World} (H : HR w0 p h w) (o : Obj) : HR w0 p h (w.alloc o) := by
  refine ⟨H.os, H.tape, H.output, Nat.le_trans H.size (by simp), fun b hb => ?_, H.dom, fun c m x hx => Nat.lt_of_lt_of_le (H.lt c m x hx) (by simp), H.apart, fun c C hC => ?_⟩
  · rw [alloc_keep w o (Nat.lt_of_lt_of_le hb H.size)]; exact H.old b hb
  · exact (H.cls c C hC).keep H.cov (fun _ _ _ hx => hx) (Grow.refl h) (fun _ _ hx => hx) fun m x hx => alloc_keep w o (H.lt c m x hx)
theorem upd_upd (h : Hp) (c : Nat) (A B : Cls) : upd (upd h c A) c B = upd h c B := by
  funext x
  unfold upd
  split <;> rfl

end Go.Proofs.Ytmjnbdkjekdkgaa
