/-
  There is a track, plainly: words with a track's bits.
-/
import Derived.Test.YtiknomepbklibaaDoorQtPrP
namespace Go.Proofs.YtiknomepbklibaaDoor
open Go Go.RowKit
set_option linter.unusedVariables false

/-- A word with a track's bits; behind the end all others are 0. -/
def lt0 (w : List Nat) (i : Nat) : Nat := (w[i]?).getD 0
def bit0 (bs : List Bool) (i : Nat) : Nat := if bvl bs i then 1 else 0
theorem bit0_le (bs : List Bool) (i : Nat) : bit0 bs i ≤ 1 := by unfold bit0; split <;> omega
def putW (k : Nat) (w : List Nat) (bs : List Bool) : List Nat := (List.range (max w.length bs.length)).map fun i => putL k (lt0 w i) (bit0 bs i)
theorem lt0_lt {w : List Nat} {K : Nat} (h : LetK K w) (hK : 0 < K) (i : Nat) : lt0 w i < K := by
 unfold lt0
 by_cases hi : i < w.length
 ·rw [List.getElem?_eq_getElem hi]; exact h _ (List.getElem_mem hi)
 ·rw [List.getElem?_eq_none (by omega)]; exact hK
theorem lt0_off {w : List Nat} {i : Nat} (h : w.length ≤ i) : lt0 w i = 0 := by unfold lt0; rw [List.getElem?_eq_none h]; rfl
theorem putW_lt {T k : Nat} (hk : k < T) {w : List Nat} (h : LetK (2 ^ (T - 1)) w) (bs : List Bool) : LetK (2 ^ T) (putW k w bs) := by
 intro c hc
 obtain ⟨i, _, rfl⟩ := List.mem_map.1 hc
 exact put_lt hk (lt0_lt h (Nat.two_pow_pos _) i) (bit0_le bs i)
theorem putL_zero (k u : Nat) : putL k 0 u = u * 2 ^ k := by simp [putL]
/-! The sets that words lead to. -/
theorem mem_stepS {a : Au} {k c : Nat} {q : List Int} {x : Int} : x ∈ stepS a k q c ↔ ∃ z ∈ q, ∃ u, u ≤ 1 ∧ x = ((a.go z.toNat (putL k c u) : Nat) : Int) := by
 unfold stepS; rw [mem_sortedZ, mem_nextP]
theorem mem_fold {a : Au} {k : Nat} {z : Int} : ∀ (w : List Nat) (q : List Int), (∀ y ∈ q, 0 ≤ y) → (z ∈ w.foldl (stepS a k) q ↔ ∃ y ∈ q, ∃ us : List Nat, us.length = w.length ∧ (∀ u ∈ us, u ≤ 1) ∧ z = ((a.run y.toNat (List.zipWith (putL k) w us) : Nat) : Int))
 | [], q, hq => by
  constructor
  ·intro h
   exact ⟨z, h, [], rfl, (fun u hu => by cases hu), (Int.toNat_of_nonneg (hq z h)).symm⟩
  ·rintro ⟨y, hy, us, _, _, rfl⟩
   show ((y.toNat : Nat) : Int) ∈ q
   rw [Int.toNat_of_nonneg (hq y hy)]; exact hy
 | c :: w, q, hq => by
  rw [List.foldl_cons, mem_fold w (stepS a k q c) fun y hy => by
   obtain ⟨_, _, _, _, rfl⟩ := mem_stepS.1 hy
   omega]
  constructor
  ·rintro ⟨y', hy', us, hl, hu, rfl⟩
   obtain ⟨y, hy, u, hu1, rfl⟩ := mem_stepS.1 hy'
   refine ⟨y, hy, u :: us, by simp [hl], fun x hx => ?_, rfl⟩
   rcases List.mem_cons.1 hx with rfl | hx
   ·exact hu1
   ·exact hu x hx
  ·rintro ⟨y, hy, us, hl, hu, rfl⟩
   cases us with
   | nil => simp at hl
   | cons u us =>
    exact ⟨_, mem_stepS.2 ⟨y, hy, u, hu u (by simp), rfl⟩, us, by simpa using hl, fun x hx => hu x (by simp [hx]), rfl⟩
/-- The set behind so many letters; behind the end all others are 0. -/
def setAt (a : Au) (k : Nat) (w : List Nat) (i : Nat) : List Int := ((List.range i).map (lt0 w)).foldl (stepS a k) [0]
theorem setAt_succ (a : Au) (k : Nat) (w : List Nat) (i : Nat) : setAt a k w (i + 1) = stepS a k (setAt a k w i) (lt0 w i) := by
 unfold setAt; rw [List.range_succ, List.map_append, List.foldl_append]; rfl
theorem range_lt0 (w : List Nat) : (List.range w.length).map (lt0 w) = w := by
 apply List.ext_getElem?
 intro i
 by_cases hi : i < w.length
 ·rw [List.getElem?_map, List.getElem?_range hi, List.getElem?_eq_getElem hi]
  show some (lt0 w i) = _
  unfold lt0; rw [List.getElem?_eq_getElem hi]; rfl
 ·rw [List.getElem?_eq_none (by simp; omega), List.getElem?_eq_none (by omega)]
theorem setAt_len (a : Au) (k : Nat) (w : List Nat) : setAt a k w w.length = w.foldl (stepS a k) [0] := by unfold setAt; rw [range_lt0]
theorem setAt_set {a : Au} (W : WFA a) {k : Nat} (hk : k < a.tr) {w : List Nat} (h : LetK (2 ^ (a.tr - 1)) w) : ∀ i, SetS a.n (setAt a k w i)
 | 0 => SetS.zero W.pos
 | i + 1 => by rw [setAt_succ]; exact (setAt_set W hk h i).step W hk (lt0_lt h (Nat.two_pow_pos _) i)
/-- Letters of the track alone. -/
def Tk (k c : Nat) : Prop := c = 0 ∨ c = 2 ^ k
theorem tk_put (k : Nat) {u : Nat} (hu : u ≤ 1) : Tk k (putL k 0 u) := by
 rw [putL_zero]
 have : u = 0 ∨ u = 1 := by omega
 rcases this with rfl | rfl
 ·exact .inl (Nat.zero_mul _)
 ·exact .inr (Nat.one_mul _)
theorem clp_of {a : Au} {k : Nat} : ∀ (r : List Nat) {s : Nat}, (∀ c ∈ r, Tk k c) → a.ok (a.run s r) = true → ClP a k s
 | [], s, _, h => .acc h
 | c :: r, s, hr, h => by
  have ih := clp_of (a := a) (k := k) r (s := a.go s c) (fun x hx => hr x (by simp [hx])) h
  rcases hr c (by simp) with e | e
  ·subst e; exact .low ih
  ·subst e; exact .high ih
theorem clp_path {a : Au} {k s : Nat} (h : ClP a k s) : ∃ r : List Nat, (∀ c ∈ r, Tk k c) ∧ a.ok (a.run s r) = true := by
 induction h with
 | acc h => exact ⟨[], fun c h => (by cases h), h⟩
 | low _ ih => obtain ⟨r, h1, h2⟩ := ih; exact ⟨0 :: r, fun c hc => by rcases List.mem_cons.1 hc with rfl | hc; exact .inl rfl; exact h1 c hc, h2⟩
 | high _ ih => obtain ⟨r, h1, h2⟩ := ih; exact ⟨2 ^ k :: r, fun c hc => by rcases List.mem_cons.1 hc with rfl | hc; exact .inr rfl; exact h1 c hc, h2⟩
theorem short_path {a : Au} (W : WFA a) {Q : Nat → Prop} (hQ : ∀ c, Q c → c < a.K) {s : Nat} (hs : s < a.n) : ∀ (m : Nat) (u : List Nat), u.length ≤ m → (∀ c ∈ u, Q c) → a.ok (a.run s u) = true → ∃ u' : List Nat, u'.length < a.n ∧ (∀ c ∈ u', Q c) ∧ a.ok (a.run s u') = true := by
 intro m
 induction m with
 | zero =>
  intro u hl hq ho
  exact ⟨u, by have := W.pos; omega, hq, ho⟩
 | succ m ih =>
  intro u hl hq ho
  by_cases hu : u.length < a.n
  ·exact ⟨u, hu, hq, ho⟩
  ·by_cases hn : ((List.range (u.length + 1)).map fun j => a.run s (u.take j)).Nodup
   ·have := nodup_le (b := List.range a.n) hn fun x hx => by
     obtain ⟨j, _, rfl⟩ := List.mem_map.1 hx
     exact List.mem_range.2 (W.run_lt _ hs fun c hc => hQ c (hq c (List.mem_of_mem_take hc)))
    rw [List.length_map, List.length_range, List.length_range] at this
    omega
   ·obtain ⟨i, j, hij, hj, e⟩ : ∃ i j : Nat, i < j ∧ j ≤ u.length ∧ a.run s (u.take i) = a.run s (u.take j) := by
     apply Classical.byContradiction
     intro hno
     refine hn (List.pairwise_iff_getElem.2 fun i j hi hj hij e => hno ⟨i, j, hij, ?_, ?_⟩)
     ·rw [List.length_map, List.length_range] at hj; omega
     ·rw [List.getElem_map, List.getElem_map, List.getElem_range, List.getElem_range] at e; exact e
    have hl2 : (u.take i ++ u.drop j).length < u.length := by rw [List.length_append, List.length_take, List.length_drop]; omega
    refine ih (u.take i ++ u.drop j) (by omega) (fun c hc => ?_) ?_
    ·rcases List.mem_append.1 hc with hc | hc
     ·exact hq c (List.mem_of_mem_take hc)
     ·exact hq c (List.mem_of_mem_drop hc)
    ·rw [Au.run_app, e, ← Au.run_app, List.take_append_drop]; exact ho
theorem any_iff {acc : List Bool} {q : List Int} : anyS acc q = true ↔ ∃ z ∈ q, bvl acc z.toNat = true := by unfold anyS; rw [List.any_eq_true]
/-- Accepted with some bits: accepted without the track. -/
theorem there_of {a : Au} (W : WFA a) {k : Nat} (hk : k < a.tr) {acc : List Bool} (hc : ClAcc a k acc) {w : List Nat} (hw : LetK (2 ^ (a.tr - 1)) w) {bs : List Bool} (h : a.ok (a.run 0 (putW k w bs)) = true) : anyS acc (w.foldl (stepS a k) [0]) = true := by
  let f := fun i => putL k (lt0 w i) (bit0 bs i)
  have e1 : putW k w bs = (List.range w.length).map f ++ ((List.range (max w.length bs.length - w.length)).map fun i => f (w.length + i)) := by
    apply List.ext_getElem?
    intro i
    unfold putW
    by_cases hi : i < w.length
    · rw [List.getElem?_append_left (by simpa using hi), List.getElem?_map, List.getElem?_map, List.getElem?_range hi, List.getElem?_range (by omega)]
    · rw [List.getElem?_append_right (by simpa using hi), List.length_map, List.length_range, List.getElem?_map, List.getElem?_map]
      by_cases hi2 : i < max w.length bs.length
      · rw [List.getElem?_range hi2, List.getElem?_range (by omega)]
        show some (f i) = some (f (w.length + (i - w.length)))
        rw [show w.length + (i - w.length) = i by omega]
      · rw [List.getElem?_eq_none (by rw [List.length_range]; omega), List.getElem?_eq_none (by rw [List.length_range]; omega)]; rfl
  rw [e1, Au.run_app] at h
  have hz : List.zipWith (putL k) w ((List.range w.length).map (bit0 bs)) = (List.range w.length).map f := by
    apply List.ext_getElem?
    intro i
    by_cases hi : i < w.length
    · rw [List.getElem?_zipWith, List.getElem?_map, List.getElem?_map, List.getElem?_range hi, List.getElem?_eq_getElem hi]
      show some (putL k w[i] (bit0 bs i)) = some (putL k (lt0 w i) (bit0 bs i))
      unfold lt0; rw [List.getElem?_eq_getElem hi]; rfl
    · rw [List.getElem?_eq_none (by simp; omega), List.getElem?_eq_none (by simp; omega)]
  have hs : a.run 0 ((List.range w.length).map f) < a.n := W.run_lt _ W.pos fun c hc => by
    obtain ⟨i, _, rfl⟩ := List.mem_map.1 hc
    exact put_lt hk (lt0_lt hw (Nat.two_pow_pos _) i) (bit0_le bs i)
  refine any_iff.2 ⟨((a.run 0 ((List.range w.length).map f) : Nat) : Int), (mem_fold w [0] fun y hy => by rw [List.mem_singleton.1 hy]; decide).2 ⟨0, by simp, (List.range w.length).map (bit0 bs), by simp, fun u hu => ?_, by rw [hz]; rfl⟩, ?_⟩
  · obtain ⟨i, _, rfl⟩ := List.mem_map.1 hu
    exact bit0_le bs i
  · rw [Int.toNat_natCast]
    refine (hc.iff _ hs).2 (clp_of _ (fun c hc => ?_) h)
    obtain ⟨i, _, rfl⟩ := List.mem_map.1 hc
    show Tk k (putL k (lt0 w (w.length + i)) _)
    rw [lt0_off (by omega)]
    exact tk_put k (bit0_le bs _)
/-- Accepted without the track: some letters of the track on, fewer than there are states, one of the states accepts. -/
theorem there_some {a : Au} (W : WFA a) {k : Nat} (hk : k < a.tr) {acc : List Bool} (hc : ClAcc a k acc) {w : List Nat} (hw : LetK (2 ^ (a.tr - 1)) w) (h : anyS acc (w.foldl (stepS a k) [0]) = true) : ∃ j, j < a.n ∧ ∃ z ∈ setAt a k w (w.length + j), a.ok z.toNat = true := by
  obtain ⟨z, hz, hb⟩ := any_iff.1 h
  rw [← setAt_len] at hz
  have hzS := (setAt_set W hk hw w.length).2 z hz
  obtain ⟨r, hr1, hr2⟩ := clp_path ((hc.iff z.toNat (by omega)).1 hb)
  obtain ⟨u, hu1, hu2, hu3⟩ := short_path W (Q := Tk k) (fun c h => by
    rcases h with rfl | rfl
    · exact Nat.two_pow_pos _
    · exact Nat.pow_lt_pow_right (by decide) hk) (s := z.toNat) (by omega) r.length r (Nat.le_refl _) hr1 hr2
  have key : ∀ (u : List Nat) (i : Nat) (z : Int), w.length ≤ i → 0 ≤ z → z ∈ setAt a k w i → (∀ c ∈ u, Tk k c) → ((a.run z.toNat u : Nat) : Int) ∈ setAt a k w (i + u.length) := by
    intro u
    induction u with
    | nil => intro i z _ h0 hz _; show ((z.toNat : Nat) : Int) ∈ _; rw [Int.toNat_of_nonneg h0]; exact hz
    | cons c u ih =>
      intro i z hi h0 hz hu
      have h1 : ((a.go z.toNat c : Nat) : Int) ∈ setAt a k w (i + 1) := by
        rw [setAt_succ, lt0_off hi]
        rcases hu c (by simp) with e | e
        · exact mem_stepS.2 ⟨z, hz, 0, by decide, by rw [putL_zero, Nat.zero_mul, e]⟩
        · exact mem_stepS.2 ⟨z, hz, 1, by decide, by rw [putL_zero, Nat.one_mul, e]⟩
      have := ih (i + 1) _ (by omega) (by omega) h1 fun x hx => hu x (by simp [hx])
      rw [Int.toNat_natCast] at this
      rw [List.length_cons, show i + (u.length + 1) = i + 1 + u.length by omega]
      exact this
  exact ⟨u.length, hu1, _, key u w.length z (Nat.le_refl _) hzS.1 hz hu2, by rw [Int.toNat_natCast]; exact hu3⟩
end Go.Proofs.YtiknomepbklibaaDoor
