/-
  A reckoner for closed calls: what its values and its memory say of the model's. No program here.
-/
import Derived.Test.YtmjnbdkjekdkgaaEvA
namespace Go.Proofs.Ytmjnbdkjekdkgaa
open Go
set_option linter.unusedVariables false

/-- Where a member lies: its block, its first cell there, and how many cells from there on are its class's. -/
structure Pl where
  b : Nat
  d : Nat
  e : Nat
abbrev Pls := Nat → Nat → Option Pl

mutual
def conc (p : Pls) : AV → Value
  | .bool b => .bool b
  | .int k n => .int k n
  | .str l => .string (bytesOf l)
  | .nilp => .pointer none
  | .ptr c m off => match p c m with
    | some q => .pointer (some ⟨q.b, q.d + off, none⟩)
    | none => undef
  | .nils => .slice none 0 0
  | .sl c m off len esz => match p c m with
    | some q => .slice (some ⟨q.b, q.d + off, none⟩) len ((q.e - off) / esz)
    | none => undef
  | .slz c m off a esz => match p c m with
    | some q => .slice (some ⟨q.b, if (q.e - off) / esz = a then q.d + off else q.d + (off + a * esz), none⟩) 0 ((q.e - off) / esz - a)
    | none => undef
  | .sl0 b o s => .slice (some ⟨b, o, s⟩) 0 0
  | .fn f a c => .func (.func f) (concL p a).toArray (concL p c).toArray
  | .nilf => .nilFunc
  | .ifc t v => .iface t (conc p v)
  | .nili => .nilIface
  | .mp c => match p c 0 with
    | some q => .map (some q.b)
    | none => undef
  | .nilm => .map none
  | .agg l => .agg (concL p l).toArray
  | .tup l => .tuple (concL p l).toArray
def concL (p : Pls) : List AV → List Value
  | [] => []
  | v :: l => conc p v :: concL p l
end

theorem concL_eq (p : Pls) (l : List AV) : concL p l = l.map (conc p) := by
  induction l with
  | nil => rfl
  | cons v l ih => rw [concL, ih]; rfl

/-- The members of a class, with their lengths. -/
def exts : Cls → List Nat
  | .row _ ms => ms.map Prod.fst
  | .iter _ _ _ => [1]
  | .map _ _ => [1]
abbrev Hp := Nat → Option Cls

mutual
/-- What a value names is there. -/
def WF (h : Hp) : AV → Prop
  | .ptr c m off => ∃ C, h c = some C ∧ m < (exts C).length
  | .sl c m off len esz => ∃ C e, h c = some C ∧ (exts C)[m]? = some e ∧ 0 < esz ∧ off + len * esz ≤ e
  | .slz c m off a esz => ∃ C, h c = some C ∧ m < (exts C).length
  | .fn f a c => WFL h a ∧ WFL h c
  | .ifc t v => WF h v
  | .mp c => ∃ C, h c = some C ∧ 0 < (exts C).length
  | .agg l => WFL h l
  | .tup l => WFL h l
  | .str l => Bytes l
  | _ => True
def WFL (h : Hp) : List AV → Prop
  | [] => True
  | v :: l => WF h v ∧ WFL h l
end
theorem WFL_iff (h : Hp) (l : List AV) : WFL h l ↔ ∀ v ∈ l, WF h v := by
  induction l with
  | nil => simp [WFL]
  | cons v l ih => simp [WFL, ih]

/-- Memory grows: classes stay, and gain members. -/
def Grow (h h' : Hp) : Prop := ∀ c C, h c = some C → ∃ C', h' c = some C' ∧ exts C <+: exts C'
theorem Grow.refl (h : Hp) : Grow h h := fun c C hc => ⟨C, hc, List.prefix_refl _⟩
theorem Grow.trans {a b c : Hp} (h : Grow a b) (k : Grow b c) : Grow a c := fun x C hx => by
  obtain ⟨C1, h1, p1⟩ := h x C hx
  obtain ⟨C2, h2, p2⟩ := k x C1 h1
  exact ⟨C2, h2, p1.trans p2⟩
theorem pre_get {α : Type} {l r : List α} (h : l <+: r) {i : Nat} {x : α} (hi : l[i]? = some x) : r[i]? = some x := by
  obtain ⟨t, rfl⟩ := h
  rw [List.getElem?_append_left (List.getElem?_eq_some_iff.1 hi).1]
  exact hi
mutual
theorem WF.grow {h h' : Hp} (hg : Grow h h') : ∀ (v : AV), WF h v → WF h' v
  | .ptr c m off, ⟨C, hc, hm⟩ => by
    obtain ⟨C', h1, h2⟩ := hg c C hc
    exact ⟨C', h1, Nat.lt_of_lt_of_le hm h2.length_le⟩
  | .sl c m off len esz, ⟨C, e, hc, hm, h1, h2⟩ => by
    obtain ⟨C', k1, k2⟩ := hg c C hc
    exact ⟨C', e, k1, pre_get k2 hm, h1, h2⟩
  | .slz c m off a esz, ⟨C, hc, hm⟩ => by
    obtain ⟨C', h1, h2⟩ := hg c C hc
    exact ⟨C', h1, Nat.lt_of_lt_of_le hm h2.length_le⟩
  | .fn f a c, ⟨ha, hc⟩ => ⟨WFL.grow hg a ha, WFL.grow hg c hc⟩
  | .ifc t v, hv => WF.grow hg v hv
  | .mp c, ⟨C, hc, hm⟩ => by
    obtain ⟨C', h1, h2⟩ := hg c C hc
    exact ⟨C', h1, Nat.lt_of_lt_of_le hm h2.length_le⟩
  | .agg l, hl => WFL.grow hg l hl
  | .tup l, hl => WFL.grow hg l hl
  | .str l, hl => hl
  | .bool _, _ => trivial
  | .int _ _, _ => trivial
  | .nilp, _ => trivial
  | .nils, _ => trivial
  | .nilf, _ => trivial
  | .nili, _ => trivial
  | .nilm, _ => trivial
  | .sl0 _ _ _, _ => trivial
theorem WFL.grow {h h' : Hp} (hg : Grow h h') : ∀ (l : List AV), WFL h l → WFL h' l
  | [], _ => trivial
  | v :: l, ⟨hv, hl⟩ => ⟨WF.grow hg v hv, WFL.grow hg l hl⟩
end

/-- Places that are kept. -/
def Pls.le (p q : Pls) : Prop := ∀ c m x, p c m = some x → q c m = some x
/-- What is there has a place. -/
def Cov (p : Pls) (h : Hp) : Prop := ∀ c C, h c = some C → ∀ m, m < (exts C).length → ∃ x, p c m = some x
mutual
theorem conc_le {p q : Pls} {h : Hp} (hc : Cov p h) (hl : Pls.le p q) : ∀ (v : AV), WF h v → conc q v = conc p v
  | .ptr c m off, ⟨C, h1, h2⟩ => by
    obtain ⟨x, hx⟩ := hc c C h1 m h2
    simp only [conc, hx, hl c m x hx]
  | .sl c m off len esz, ⟨C, e, h1, h2, h3, h4⟩ => by
    obtain ⟨x, hx⟩ := hc c C h1 m (List.getElem?_eq_some_iff.1 h2).1
    simp only [conc, hx, hl c m x hx]
  | .slz c m off a esz, ⟨C, h1, h2⟩ => by
    obtain ⟨x, hx⟩ := hc c C h1 m h2
    simp only [conc, hx, hl c m x hx]
  | .fn f a c, ⟨ha, hb⟩ => by simp only [conc, concL_le hc hl a ha, concL_le hc hl c hb]
  | .ifc t v, hv => by simp only [conc, conc_le hc hl v hv]
  | .mp c, ⟨C, h1, h2⟩ => by
    obtain ⟨x, hx⟩ := hc c C h1 0 h2
    simp only [conc, hx, hl c 0 x hx]
  | .agg l, hv => by simp only [conc, concL_le hc hl l hv]
  | .tup l, hv => by simp only [conc, concL_le hc hl l hv]
  | .str l, _ => rfl
  | .bool _, _ => rfl
  | .int _ _, _ => rfl
  | .nilp, _ => rfl
  | .nils, _ => rfl
  | .nilf, _ => rfl
  | .nili, _ => rfl
  | .nilm, _ => rfl
  | .sl0 _ _ _, _ => rfl
theorem concL_le {p q : Pls} {h : Hp} (hc : Cov p h) (hl : Pls.le p q) : ∀ (l : List AV), WFL h l → concL q l = concL p l
  | [], _ => rfl
  | v :: l, ⟨hv, hr⟩ => by simp only [concL, conc_le hc hl v hv, concL_le hc hl l hr]
end

/-- A value of one cell. -/
def isCell : AV → Bool
  | .agg _ => false
  | .tup _ => false
  | _ => true
/-- A value's cells. -/
def cellsA : AV → List AV
  | .agg l => l
  | v => [v]

/-- A block of cells; one of our own is frozen nowhere. -/
def CellsAt (ro : Bool) (w : World) (b : Nat) (arr : Array Value) (el : TypeId) : Prop := ∃ fr, w.heap[b]? = some (.cells arr el fr) ∧ (ro = false → fr = (0, 0))
theorem CellsAt.own {w : World} {b : Nat} {arr : Array Value} {el : TypeId} (h : CellsAt false w b arr el) : w.heap[b]? = some (.cells arr el (0, 0)) := by
  obtain ⟨fr, h1, h2⟩ := h
  rw [h1, h2 rfl]
theorem CellsAt.of {ro : Bool} {w : World} {b : Nat} {arr : Array Value} {el : TypeId} (h : w.heap[b]? = some (.cells arr el (0, 0))) : CellsAt ro w b arr el := ⟨_, h, fun _ => rfl⟩
theorem CellsAt.keep {ro : Bool} {w w' : World} {b : Nat} {arr : Array Value} {el : TypeId} (h : CellsAt ro w b arr el) (hk : w'.heap[b]? = w.heap[b]?) : CellsAt ro w' b arr el := by
  obtain ⟨fr, h1, h2⟩ := h
  exact ⟨fr, by rw [hk]; exact h1, h2⟩
/-- Of a row: each member has its place; what is alive reads so. -/
structure RowAt (n0 : Nat) (p : Pls) (h : Hp) (w : World) (c : Nat) (ro : Bool) (ms : List (Nat × Nat × Option (List AV))) : Prop where
  mem : ∀ m e vs cs, ms[m]? = some (e, vs, cs) → ∃ q arr el, p c m = some q ∧ CellsAt ro w q.b arr el ∧ q.d + q.e ≤ arr.size ∧ e ≤ q.e ∧ (ro = false → n0 ≤ q.b) ∧
    ∀ l, cs = some l → l.length = e ∧ ∀ j v, l[j]? = some v → arr[q.d + j]? = some (conc p v) ∧ WF h v ∧ isCell v = true
  same : ∀ m e vs cs m' e' vs' cs' q q', ms[m]? = some (e, vs, cs) → ms[m']? = some (e', vs', cs') → p c m = some q → p c m' = some q' → q.b = q'.b → q.d + vs' = q'.d + vs

def ClsAt (n0 : Nat) (p : Pls) (h : Hp) (w : World) (c : Nat) : Cls → Prop
  | .row ro ms => RowAt n0 p h w c ro ms
  | .iter s r pos => ∃ q, p c 0 = some q ∧ w.heap[q.b]? = some (.stringIter (bytesOf s) pos) ∧ r = s.drop pos ∧ Bytes s ∧ n0 ≤ q.b ∧ q.d = 0 ∧ 1 ≤ q.e
  | .map _ _ => False

/-- The reckoner's memory is the model's, but for what lay there at the start and what is waste. -/
structure HR (w0 : World) (p : Pls) (h : Hp) (w : World) : Prop where
  os : w.os = w0.os
  tape : w.tape = w0.tape
  output : w.output = w0.output
  size : w0.heap.size ≤ w.heap.size
  old : ∀ b, b < w0.heap.size → w.heap[b]? = w0.heap[b]?
  dom : ∀ c m x, p c m = some x → ∃ C, h c = some C ∧ m < (exts C).length
  lt : ∀ c m x, p c m = some x → x.b < w.heap.size
  apart : ∀ c m x c' m' x', p c m = some x → p c' m' = some x' → x.b = x'.b → c = c'
  cls : ∀ c C, h c = some C → ClsAt w0.heap.size p h w c C

theorem HR.cov {w0 : World} {p : Pls} {h : Hp} {w : World} (H : HR w0 p h w) : Cov p h := by
  intro c C hc m hm
  have := H.cls c C hc
  cases C with
  | row ro ms =>
    obtain ⟨e, vs, cs, he⟩ : ∃ e vs cs, ms[m]? = some (e, vs, cs) := by
      have hm' : m < ms.length := by simpa [exts] using hm
      exact ⟨_, _, _, List.getElem?_eq_getElem hm'⟩
    obtain ⟨q, _, _, hq, _⟩ := this.mem m e vs cs he
    exact ⟨q, hq⟩
  | iter s r pos =>
    obtain ⟨q, hq, _⟩ := this
    simp [exts] at hm
    subst hm
    exact ⟨q, hq⟩
  | map es k => exact this.elim

/-- What does not belong to the reckoner's memory is kept. -/
structure Fr (p : Pls) (w w' : World) : Prop where
  size : w.heap.size ≤ w'.heap.size
  keep : ∀ b, b < w.heap.size → (∀ c m x, p c m = some x → x.b ≠ b) → w'.heap[b]? = w.heap[b]?
/-- New places lie in new blocks, or in blocks of their class. -/
def NewPl (p q : Pls) (w : World) : Prop := ∀ c m x, q c m = some x → p c m = none → w.heap.size ≤ x.b ∨ ∃ m0 x0, p c m0 = some x0 ∧ x0.b = x.b

structure Step (w0 : World) (p : Pls) (w : World) (p' : Pls) (h' : Hp) (w' : World) : Prop where
  le : Pls.le p p'
  hr : HR w0 p' h' w'
  fr : Fr p w w'
  new : NewPl p p' w
theorem Step.refl {w0 : World} {p : Pls} {h : Hp} {w : World} (H : HR w0 p h w) : Step w0 p w p h w :=
  ⟨fun _ _ _ hx => hx, H, ⟨Nat.le_refl _, fun _ _ _ => rfl⟩, fun c m x hx hn => by rw [hn] at hx; exact nomatch hx⟩
theorem Step.trans {w0 : World} {p p1 p2 : Pls} {h1 h2 : Hp} {w w1 w2 : World} (a : Step w0 p w p1 h1 w1) (b : Step w0 p1 w1 p2 h2 w2) : Step w0 p w p2 h2 w2 := by
  refine ⟨fun c m x hx => b.le c m x (a.le c m x hx), b.hr, ⟨Nat.le_trans a.fr.size b.fr.size, fun k hk hn => ?_⟩, fun c m x hx hn => ?_⟩
  · rw [b.fr.keep k (Nat.lt_of_lt_of_le hk a.fr.size) ?_, a.fr.keep k hk hn]
    intro c m x hx e
    subst e
    cases hp : p c m with
    | some y =>
      have := a.le c m y hp
      rw [hx] at this
      injection this with this
      subst this
      exact hn c m x hp rfl
    | none =>
      rcases a.new c m x hx hp with h | ⟨m0, x0, h, e⟩
      · omega
      · exact hn c m0 x0 h e
  · cases hp1 : p1 c m with
    | some y =>
      have := b.le c m y hp1
      rw [hx] at this
      injection this with this
      subst this
      exact a.new c m x hp1 hn
    | none =>
      rcases b.new c m x hx hp1 with h | ⟨m0, x0, h, e⟩
      · exact .inl (Nat.le_trans a.fr.size h)
      · cases hp : p c m0 with
        | some y =>
          have := a.le c m0 y hp
          rw [h] at this
          injection this with this
          subst this
          exact .inr ⟨m0, x0, hp, e⟩
        | none =>
          rcases a.new c m0 x0 h hp with k | ⟨m1, x1, k, e'⟩
          · exact .inl (e ▸ k)
          · exact .inr ⟨m1, x1, k, e'.trans e⟩

/-- Draws change nothing here. -/
theorem HR.drew {w0 : World} {p : Pls} {h : Hp} {w : World} (H : HR w0 p h w) (k : Nat) : HR w0 p h { w with drawn := k } :=
  ⟨H.os, H.tape, H.output, H.size, H.old, H.dom, H.lt, H.apart, fun c C hc => by
    have := H.cls c C hc
    cases C with
    | row ro ms => exact ⟨this.mem, this.same⟩
    | iter s r pos => exact this
    | map es k => exact this⟩
theorem Step.drew {w0 : World} {p : Pls} {h : Hp} {w : World} (H : HR w0 p h w) (k : Nat) : Step w0 p w p h { w with drawn := k } :=
  ⟨fun _ _ _ hx => hx, H.drew k, ⟨Nat.le_refl _, fun _ _ _ => rfl⟩, fun c m x hx hn => by rw [hn] at hx; exact nomatch hx⟩

/-- The reckoner's state: the next class's number, the memory. -/
structure St where
  n : Nat
  h : Tr Cls
/-- Of a step of the reckoner alone: numbers rise, memory grows by them. -/
structure Ab (s s' : St) : Prop where
  n : s.n ≤ s'.n
  grow : Grow s.h.get s'.h.get
  new : ∀ c, s.h.get c = none → (c < s.n ∨ s'.n ≤ c) → s'.h.get c = none
theorem Ab.refl (s : St) : Ab s s := ⟨Nat.le_refl _, Grow.refl _, fun _ h _ => h⟩
theorem Ab.trans {a b c : St} (x : Ab a b) (y : Ab b c) : Ab a c :=
  ⟨Nat.le_trans x.n y.n, x.grow.trans y.grow, fun k hk ho => y.new k (x.new k hk (by have := x.n; have := y.n; omega)) (by have := x.n; have := y.n; omega)⟩
/-- Numbers to come name nothing. -/
def Fresh (s : St) : Prop := ∀ c, s.n ≤ c → s.h.get c = none
theorem Ab.fresh {s s' : St} (a : Ab s s') (h : Fresh s) : Fresh s' := fun c hc => a.new c (h c (Nat.le_trans a.n hc)) (.inr hc)

end Go.Proofs.Ytmjnbdkjekdkgaa
