/-
  There is a track, plainly: words with a track's bits.
-/
import Derived.Test.YtiknomepbklibaaGreatDoorZoPrP
section
namespace Go.Proofs.YtiknomepbklibaaGreatDoor
open Go Go.RowKit
set_option linter.unusedVariables false

/-- A word with a track's bits; behind the end all others are 0. -/
def lt0 (w : List Nat) (i : Nat) : Nat := (w[i]?).getD 0
/-! The sets that words lead to. -/
theorem mem_stepS {a : Au} {k c : Nat} {q : List Int} {x : Int} : x ∈ stepS a k q c ↔ ∃ z ∈ q, ∃ u, u ≤ 1 ∧ x = ((a.go z.toNat (putL k c u) : Nat) : Int) := by
 unfold stepS; rw [mem_sortedZ, mem_nextP]
theorem mem_fold {a : Au} {k : Nat} {z : Int} : ∀ (w : List Nat) (q : List Int), (∀ y ∈ q, 0 ≤ y) → (z ∈ w.foldl (stepS a k) q ↔ ∃ y ∈ q, ∃ us : List Nat, us.length = w.length ∧ (∀ u ∈ us, u ≤ 1) ∧ z = ((a.run y.toNat (List.zipWith (putL k) w us) : Nat) : Int))
 | [], q, hq => by
  constructor
  ·intro h
   exact ⟨z, h, [], rfl, (fun u hu => by cases hu), (Int.toNat_of_nonneg (hq z h)).symm⟩
  ·rintro ⟨y, hy, us, _, _, rfl⟩
   show ((y.toNat : Nat) : Int) ∈ q
   rw [Int.toNat_of_nonneg (hq y hy)]; exact hy
 | c :: w, q, hq => by
  rw [List.foldl_cons, mem_fold w (stepS a k q c) fun y hy => by
   obtain ⟨_, _, _, _, rfl⟩ := mem_stepS.1 hy
   omega]
  constructor
  ·rintro ⟨y', hy', us, hl, hu, rfl⟩
   obtain ⟨y, hy, u, hu1, rfl⟩ := mem_stepS.1 hy'
   refine ⟨y, hy, u :: us, by simp [hl], fun x hx => ?_, rfl⟩
   rcases List.mem_cons.1 hx with rfl | hx
   ·exact hu1
   ·exact hu x hx
  ·rintro ⟨y, hy, us, hl, hu, rfl⟩
   cases us with
   | nil => simp at hl
   | cons u us =>
    exact ⟨_, mem_stepS.2 ⟨y, hy, u, hu u (by simp), rfl⟩, us, by simpa using hl, fun x hx => hu x (by simp [hx]), rfl⟩
/-- Letters of the track alone. -/
def Tk (k c : Nat) : Prop := c = 0 ∨ c = 2 ^ k
theorem clp_of {a : Au} {k : Nat} : ∀ (r : List Nat) {s : Nat}, (∀ c ∈ r, Tk k c) → a.ok (a.run s r) = true → ClP a k s
 | [], s, _, h => .acc h
 | c :: r, s, hr, h => by
  have ih := clp_of (a := a) (k := k) r (s := a.go s c) (fun x hx => hr x (by simp [hx])) h
  rcases hr c (by simp) with e | e
  ·subst e; exact .low ih
  ·subst e; exact .high ih
theorem clp_path {a : Au} {k s : Nat} (h : ClP a k s) : ∃ r : List Nat, (∀ c ∈ r, Tk k c) ∧ a.ok (a.run s r) = true := by
 induction h with
 | acc h => exact ⟨[], fun c h => (by cases h), h⟩
 | low _ ih => obtain ⟨r, h1, h2⟩ := ih; exact ⟨0 :: r, fun c hc => by rcases List.mem_cons.1 hc with rfl | hc; exact .inl rfl; exact h1 c hc, h2⟩
 | high _ ih => obtain ⟨r, h1, h2⟩ := ih; exact ⟨2 ^ k :: r, fun c hc => by rcases List.mem_cons.1 hc with rfl | hc; exact .inr rfl; exact h1 c hc, h2⟩
theorem any_iff {acc : List Bool} {q : List Int} : anyS acc q = true ↔ ∃ z ∈ q, bvl acc z.toNat = true := by unfold anyS; rw [List.any_eq_true]
end Go.Proofs.YtiknomepbklibaaGreatDoor
end
section
namespace Go.Proofs.YtiknomepbklibaaGreatDoor
open Go Go.RowKit
set_option linter.unusedVariables false

/-- All sets of so many numbers from one on. -/
def subsZ : Int → Nat → List (List Int)
  | _, 0 => [[]]
  | lo, n + 1 => subsZ (lo + 1) n ++ (subsZ (lo + 1) n).map (lo :: ·)
theorem subsZ_len : ∀ (n : Nat) (lo : Int), (subsZ lo n).length = 2 ^ n
 | 0, _ => rfl
 | n + 1, lo => by rw [subsZ, List.length_append, List.length_map, subsZ_len n, Nat.pow_succ]; omega
theorem mem_subsZ : ∀ (n : Nat) (lo : Int) (q : List Int), RiseZ q → (∀ z ∈ q, lo ≤ z ∧ z < lo + n) → q ∈ subsZ lo n
 | 0, lo, q, _, hb => by
  cases q with
  | nil => simp [subsZ]
  | cons x q => have := hb x (by simp); omega
 | n + 1, lo, q, hr, hb => by
  rw [subsZ]
  cases q with
  | nil => exact List.mem_append_left _ (mem_subsZ n (lo + 1) [] List.Pairwise.nil fun z hz => by cases hz)
  | cons x q =>
   obtain ⟨h1, h2⟩ := List.pairwise_cons.1 hr
   have hx := hb x (by simp)
   by_cases e : x = lo
   ·subst e
    refine List.mem_append_right _ (List.mem_map.2 ⟨q, mem_subsZ n (x + 1) q h2 fun z hz => ?_, rfl⟩)
    have := h1 z hz
    have := hb z (by simp [hz])
    omega
   ·refine List.mem_append_left _ (mem_subsZ n (lo + 1) (x :: q) hr fun z hz => ?_)
    have := hb z hz
    rcases List.mem_cons.1 hz with rfl | hz
    ·omega
    ·have := h1 z hz
     omega
/-- Few states, few sets. -/
theorem sets_few {a : Au} (W : WFA a) {k : Nat} (hk : k < a.tr) (h5 : a.n ≤ 5) {L : List (List Int)} (hn : L.Nodup) (h : ∀ (Q : List Int → Prop), Q [0] → (∀ s c, Q s → c < 2 ^ (a.tr - 1) → Q (stepS a k s c)) → ∀ s ∈ L, Q s) : L.length ≤ 32 := by
  have h1 := nodup_le (b := subsZ 0 a.n) hn fun s hs => by
    have := h (SetS a.n) (SetS.zero W.pos) (fun s c hs hc => hs.step W hk hc) s hs
    exact mem_subsZ a.n 0 s this.1 fun z hz => by have := this.2 z hz; omega
  rw [subsZ_len] at h1
  have : 2 ^ a.n ≤ 2 ^ 5 := Nat.pow_le_pow_right (by decide) h5
  omega
/-! Two at once. -/
/-- A step of both. -/
def goP (a b : Au) (p : Nat × Nat) (c : Nat) : Nat × Nat := (a.go p.1 c, b.go p.2 c)
/-- What a table says of both. -/
def tabP (t : Nat) (x y : Bool) : Bool := t / 2 ^ ((if x then 2 else 0) + (if y then 1 else 0)) % 2 == 1
def okP (a b : Au) (t : Nat) (p : Nat × Nat) : Bool := tabP t (a.ok p.1) (b.ok p.2)
theorem tab_or (x y : Bool) : tabP 14 x y = (x || y) := by cases x <;> cases y <;> rfl
theorem foldP (a b : Au) : ∀ (w : List Nat) (p : Nat × Nat), w.foldl (goP a b) p = (a.run p.1 w, b.run p.2 w)
 | [], p => rfl
 | c :: w, p => by rw [List.foldl_cons, foldP a b w]; rfl
/-- Both, made of pairs. -/
abbrev BothA (a b : Au) (t : Nat) (l : List (Nat × Nat)) (m : Au) : Prop := MadeA (goP a b) (0, 0) (okP a b t) l m ∧ m.tr = a.tr
theorem BothA.lang {a b m : Au} {t : Nat} {l : List (Nat × Nat)} (H : BothA a b t l m) {w : List Nat} (hw : LetK a.K w) : m.ok (m.run 0 w) = tabP t (a.ok (a.run 0 w)) (b.ok (b.run 0 w)) := by
 rw [H.1.lang (by unfold Au.K at hw ⊢; rw [H.2]; exact hw), foldP]; rfl
/-- A pair of both by its number. -/
theorem BothA.at_ {a b m : Au} {t : Nat} {l : List (Nat × Nat)} (H : BothA a b t l m) {w : List Nat} (hw : LetK a.K w) : l[m.run 0 w]? = some (a.run 0 w, b.run 0 w) := by
  have := H.1.run w H.1.head (by unfold Au.K at hw ⊢; rw [H.2]; exact hw)
  rwa [foldP] at this
/-- The states of one that a set of both's numbers stands for. -/
def fstS (l : List (Nat × Nat)) (q : List Int) : List Int := sortedZ (q.map fun z => ((((l[z.toNat]?).getD (0, 0)).1 : Nat) : Int))
def sndS (l : List (Nat × Nat)) (q : List Int) : List Int := sortedZ (q.map fun z => ((((l[z.toNat]?).getD (0, 0)).2 : Nat) : Int))
theorem mem_fold0 {a : Au} {k : Nat} {z : Int} (w : List Nat) : z ∈ w.foldl (stepS a k) [0] ↔ ∃ us : List Nat, us.length = w.length ∧ (∀ u ∈ us, u ≤ 1) ∧ z = ((a.run 0 (List.zipWith (putL k) w us) : Nat) : Int) := by
 rw [mem_fold w [0] fun y hy => by rw [List.mem_singleton.1 hy]; decide]
 constructor
 ·rintro ⟨y, hy, us, h⟩
  rw [List.mem_singleton.1 hy] at h
  exact ⟨us, h⟩
 ·rintro ⟨us, h⟩
  exact ⟨0, by simp, us, h⟩
theorem fold_rise {a : Au} {k : Nat} (w : List Nat) : RiseZ (w.foldl (stepS a k) [0]) := by
 rcases List.eq_nil_or_concat w with rfl | ⟨w', c, rfl⟩
 ·exact List.pairwise_singleton _ _
 ·rw [List.concat_eq_append, List.foldl_append]; exact rise_sortedZ _
theorem zip_let {T k : Nat} (hk : k < T) : ∀ {w us : List Nat}, LetK (2 ^ (T - 1)) w → (∀ u ∈ us, u ≤ 1) → LetK (2 ^ T) (List.zipWith (putL k) w us)
 | [], us, _, _ => by intro c hc; simp at hc
 | x :: w, [], _, _ => by intro c hc; simp at hc
 | x :: w, u :: us, hw, hu => by
  intro c hc
  rw [List.zipWith_cons_cons] at hc
  rcases List.mem_cons.1 hc with rfl | hc
  ·exact put_lt hk (hw x (by simp)) (hu u (by simp))
  ·exact zip_let hk (fun y hy => hw y (by simp [hy])) (fun y hy => hu y (by simp [hy])) c hc
section
variable {a b m : Au} {t k : Nat} {l : List (Nat × Nat)} {w : List Nat}
theorem fst_fold (H : BothA a b t l m) (hk : k < a.tr) (hw : LetK (2 ^ (a.tr - 1)) w) : fstS l (w.foldl (stepS m k) [0]) = w.foldl (stepS a k) [0] := by
 refine riseZ_eq (rise_sortedZ _) (fold_rise w) fun x => ?_
 unfold fstS
 rw [mem_sortedZ, List.mem_map, mem_fold0]
 constructor
 ·rintro ⟨z, hz, rfl⟩
  obtain ⟨us, h1, h2, rfl⟩ := (mem_fold0 w).1 hz
  refine ⟨us, h1, h2, ?_⟩
  rw [Int.toNat_natCast, H.at_ (zip_let hk hw h2)]; rfl
 ·rintro ⟨us, h1, h2, rfl⟩
  refine ⟨_, (mem_fold0 w).2 ⟨us, h1, h2, rfl⟩, ?_⟩
  rw [Int.toNat_natCast, H.at_ (zip_let hk hw h2)]; rfl
theorem snd_fold (H : BothA a b t l m) (hab : b.tr = a.tr) (hk : k < a.tr) (hw : LetK (2 ^ (a.tr - 1)) w) : sndS l (w.foldl (stepS m k) [0]) = w.foldl (stepS b k) [0] := by
 refine riseZ_eq (rise_sortedZ _) (fold_rise w) fun x => ?_
 unfold sndS
 rw [mem_sortedZ, List.mem_map, mem_fold0]
 constructor
 ·rintro ⟨z, hz, rfl⟩
  obtain ⟨us, h1, h2, rfl⟩ := (mem_fold0 w).1 hz
  refine ⟨us, h1, h2, ?_⟩
  rw [Int.toNat_natCast, H.at_ (zip_let hk hw h2)]; rfl
 ·rintro ⟨us, h1, h2, rfl⟩
  refine ⟨_, (mem_fold0 w).2 ⟨us, h1, h2, rfl⟩, ?_⟩
  rw [Int.toNat_natCast, H.at_ (zip_let hk hw h2)]; rfl
end
/-! Closed: what is accepted behind more of the track. -/
/-- Accepted without the track: with some bits, and some more of the track. -/
theorem any_path {a : Au} (W : WFA a) {k : Nat} (hk : k < a.tr) {acc : List Bool} (hc : ClAcc a k acc) {w : List Nat} (hw : LetK (2 ^ (a.tr - 1)) w) : anyS acc (w.foldl (stepS a k) [0]) = true ↔ ∃ us : List Nat, us.length = w.length ∧ (∀ u ∈ us, u ≤ 1) ∧ ∃ r : List Nat, (∀ c ∈ r, Tk k c) ∧ a.ok (a.run 0 (List.zipWith (putL k) w us ++ r)) = true := by
  rw [any_iff]
  constructor
  · rintro ⟨z, hz, hb⟩
    obtain ⟨us, h1, h2, rfl⟩ := (mem_fold0 w).1 hz
    rw [Int.toNat_natCast] at hb
    obtain ⟨r, h3, h4⟩ := clp_path ((hc.iff _ (W.run_lt _ W.pos (zip_let hk hw h2))).1 hb)
    exact ⟨us, h1, h2, r, h3, by rw [Au.run_app]; exact h4⟩
  · rintro ⟨us, h1, h2, r, h3, h4⟩
    rw [Au.run_app] at h4
    exact ⟨_, (mem_fold0 w).2 ⟨us, h1, h2, rfl⟩, by rw [Int.toNat_natCast]; exact (hc.iff _ (W.run_lt _ W.pos (zip_let hk hw h2))).2 (clp_of r h3 h4)⟩
theorem tk_let {T k : Nat} (hk : k < T) {r : List Nat} (h : ∀ c ∈ r, Tk k c) : LetK (2 ^ T) r := fun c hc => by
 rcases h c hc with rfl | rfl
 ·exact Nat.two_pow_pos _
 ·exact Nat.pow_lt_pow_right (by decide) hk
/-- There is one for this or that just if there is one for either. -/
theorem any_or {a b m : Au} (Wa : WFA a) (Wb : WFA b) (Wm : WFA m) {l : List (Nat × Nat)} (H : BothA a b 14 l m) (hab : b.tr = a.tr) {k : Nat} (hk : k < a.tr) {ca cb cm : List Bool} (ha : ClAcc a k ca) (hb : ClAcc b k cb) (hm : ClAcc m k cm) {w : List Nat} (hw : LetK (2 ^ (a.tr - 1)) w) :
    anyS cm (w.foldl (stepS m k) [0]) = (anyS ca (w.foldl (stepS a k) [0]) || anyS cb (w.foldl (stepS b k) [0])) := by
  have hL : ∀ {us r : List Nat}, (∀ u ∈ us, u ≤ 1) → (∀ c ∈ r, Tk k c) → m.ok (m.run 0 (List.zipWith (putL k) w us ++ r)) = (a.ok (a.run 0 (List.zipWith (putL k) w us ++ r)) || b.ok (b.run 0 (List.zipWith (putL k) w us ++ r))) := fun {us r} hu hr => by
    rw [H.lang fun c hc => ?_, tab_or]
    rcases List.mem_append.1 hc with hc | hc
    · exact zip_let hk hw hu c hc
    · exact tk_let hk hr c hc
  have e : ∀ (p q r : Bool), (p = true ↔ q = true ∨ r = true) → p = (q || r) := fun p q r => by cases p <;> cases q <;> cases r <;> simp
  refine e _ _ _ ?_
  rw [any_path Wm (by rw [H.2]; exact hk) hm (by rw [H.2]; exact hw), any_path Wa hk ha hw, any_path Wb (by rw [hab]; exact hk) hb (by rw [hab]; exact hw)]
  constructor
  · rintro ⟨us, h1, h2, r, h3, h4⟩
    rw [hL h2 h3, Bool.or_eq_true] at h4
    rcases h4 with h4 | h4
    · exact .inl ⟨us, h1, h2, r, h3, h4⟩
    · exact .inr ⟨us, h1, h2, r, h3, h4⟩
  · rintro (⟨us, h1, h2, r, h3, h4⟩ | ⟨us, h1, h2, r, h3, h4⟩)
    · exact ⟨us, h1, h2, r, h3, by rw [hL h2 h3, h4]; rfl⟩
    · exact ⟨us, h1, h2, r, h3, by rw [hL h2 h3, h4, Bool.or_true]⟩
end Go.Proofs.YtiknomepbklibaaGreatDoor
end
