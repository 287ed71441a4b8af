/-
  An automaton without a track, plainly: sets of states, numbered as they come.
-/
import Derived.Test.YtiknomepbklibaaGreatDoorZoPlq
import Derived.Test.YtiknomepbklibaaGreatDoorZoCl
import Derived.Test.YtiknomepbklibaaGreatDoorZoPjP
import Derived.Test.YtiknomepbklibaaGreatDoorZoPlo
namespace Go.Proofs.YtiknomepbklibaaGreatDoor
open Go Go.RowKit
set_option linter.unusedVariables false

/-! A letter with a bit put in. -/
def putL (k c u : Nat) : Nat := c % 2 ^ k + u * 2 ^ k + c / 2 ^ k * 2 ^ (k + 1)
theorem low_lt (k c : Nat) : c % 2 ^ k < 2 ^ k := Nat.mod_lt _ (Nat.two_pow_pos k)
theorem or_hi {k a q : Nat} (h : a < 2 ^ k) : a ||| q * 2 ^ k = a + q * 2 ^ k := by
 have := Nat.two_pow_add_eq_or_of_lt h q
 rw [Nat.or_comm, Nat.mul_comm q, ← this, Nat.add_comm]
theorem put_or0 (k c : Nat) : c % 2 ^ k ||| c / 2 ^ k * 2 ^ (k + 1) = putL k c 0 := by
 have h1 := low_lt k c
 have h2 : 2 ^ k ≤ 2 ^ (k + 1) := Nat.pow_le_pow_right (by decide) (by omega)
 rw [or_hi (by omega), putL, Nat.zero_mul, Nat.add_zero (c % 2 ^ k)]
theorem put_or1 (k c : Nat) : putL k c 0 ||| 2 ^ k = putL k c 1 := by
 have h1 := low_lt k c
 have h2 : 2 ^ (k + 1) = 2 * 2 ^ k := by rw [Nat.pow_succ, Nat.mul_comm]
 have e := or_hi (k := k) (q := 1) h1
 rw [Nat.one_mul] at e
 rw [← put_or0, Nat.or_assoc, Nat.or_comm (c / 2 ^ k * 2 ^ (k + 1)), ← Nat.or_assoc, e, or_hi (by omega), putL, Nat.one_mul]
theorem put_lt {T k c u : Nat} (hk : k < T) (hc : c < 2 ^ (T - 1)) (hu : u ≤ 1) : putL k c u < 2 ^ T := by
 have h1 := low_lt k c
 have h3 : u * 2 ^ k ≤ 1 * 2 ^ k := Nat.mul_le_mul_right _ hu
 have h4 : c / 2 ^ k < 2 ^ (T - 1 - k) := by
  rw [Nat.div_lt_iff_lt_mul (Nat.two_pow_pos k), ← Nat.pow_add, show T - 1 - k + k = T - 1 by omega]; exact hc
 have h5 : (c / 2 ^ k + 1) * 2 ^ (k + 1) ≤ 2 ^ (T - 1 - k) * 2 ^ (k + 1) := Nat.mul_le_mul_right _ h4
 rw [← Nat.pow_add, show T - 1 - k + (k + 1) = T by omega, Nat.succ_mul] at h5
 have h2 : 2 ^ (k + 1) = 2 * 2 ^ k := by rw [Nat.pow_succ, Nat.mul_comm]
 unfold putL
 omega
section
variable {P : Program} {G : Env} {K : List (Nat × AV)} {st : St} {t yt : TypeId} {x y : Operand}
theorem os_lowN {k c : Nat} (hx : opK G K x = some (.int .i64 ((c : Nat) : Int))) (hy : opK G K y = some (.int .i64 (((2 ^ k : Nat) : Int) - 1))) (hc : c ≤ 9223372036854775807) (hk : k ≤ 62) : OpS P G K (.binOp .and t x y yt) st (.int .i64 ((c % 2 ^ k : Nat) : Int)) st := by
 have hp : 2 ^ k ≤ 2 ^ 62 := Nat.pow_le_pow_right (by decide) hk
 have h0 := Nat.two_pow_pos k
 have := os_andN (P := P) (st := st) (t := t) (yt := yt) (a := c) (b := 2 ^ k - 1) hx (by rw [hy]; congr 2; omega) hc (by omega)
 rwa [Nat.and_two_pow_sub_one_eq_mod] at this
theorem os_hiN {kk : IntKind} {k c : Nat} (hx : opK G K x = some (.int .i64 (((c : Nat) : Int) - ((c % 2 ^ k : Nat) : Int)))) (hy : opK G K y = some (.int kk 1)) (hc : c * 2 ≤ 9223372036854775807) : OpS P G K (.binOp .shl t x y yt) st (.int .i64 ((c / 2 ^ k * 2 ^ (k + 1) : Nat) : Int)) st := by
 have h1 := Nat.div_add_mod c (2 ^ k)
 have h2 : c / 2 ^ k * 2 ^ (k + 1) = (2 ^ k * (c / 2 ^ k)) * 2 ^ 1 := by rw [Nat.pow_succ, Nat.pow_one, ← Nat.mul_assoc, Nat.mul_comm (c / 2 ^ k)]
 rw [h2]
 exact os_shlN (n := 1) (by rw [hx]; congr 2; omega) hy (by decide) (by omega)
end
/-! Sets. -/
def nextP (a : Au) (k c : Nat) (q : List Int) : List Int := q.flatMap fun z => [((a.go z.toNat (putL k c 0) : Nat) : Int), ((a.go z.toNat (putL k c 1) : Nat) : Int)]
theorem nextP_len (a : Au) (k c : Nat) (q : List Int) : (nextP a k c q).length = 2 * q.length := by
 induction q with
 | nil => rfl
 | cons z q ih => unfold nextP at ih ⊢; rw [List.flatMap_cons, List.length_append, ih, List.length_cons]; simp; omega
theorem nextP_take {a : Au} {k c : Nat} {q : List Int} {i : Nat} {z : Int} (h : q[i]? = some z) : nextP a k c (q.take (i + 1)) = nextP a k c (q.take i) ++ [((a.go z.toNat (putL k c 0) : Nat) : Int), ((a.go z.toNat (putL k c 1) : Nat) : Int)] := by
 unfold nextP
 rw [List.take_add_one, h, List.flatMap_append]; rfl
theorem mem_nextP {a : Au} {k c : Nat} {q : List Int} {x : Int} : x ∈ nextP a k c q ↔ ∃ z ∈ q, ∃ u, u ≤ 1 ∧ x = ((a.go z.toNat (putL k c u) : Nat) : Int) := by
 unfold nextP
 rw [List.mem_flatMap]
 constructor
 ·rintro ⟨z, hz, h⟩
  simp only [List.mem_cons, List.not_mem_nil, or_false] at h
  rcases h with h | h
  ·exact ⟨z, hz, 0, by decide, h⟩
  ·exact ⟨z, hz, 1, by decide, h⟩
 ·rintro ⟨z, hz, u, hu, h⟩
  refine ⟨z, hz, ?_⟩
  have : u = 0 ∨ u = 1 := by omega
  rcases this with rfl | rfl <;> simp [h]
/-- The next set. -/
def stepS (a : Au) (k : Nat) (q : List Int) (c : Nat) : List Int := sortedZ (nextP a k c q)
/-- A set of states. -/
def SetS (n : Nat) (q : List Int) : Prop := RiseZ q ∧ ∀ z ∈ q, 0 ≤ z ∧ z < ((n : Nat) : Int)
theorem sorted_id {q : List Int} (h : RiseZ q) : sortedZ q = q := riseZ_eq (rise_sortedZ q) h fun x => mem_sortedZ q x
theorem rise_len : ∀ {q : List Int} {lo hi : Int}, RiseZ q → (∀ z ∈ q, lo ≤ z ∧ z < hi) → lo ≤ hi → (q.length : Int) ≤ hi - lo
 | [], lo, hi, _, _, h => by simp; omega
 | x :: q, lo, hi, h, hb, hl => by
  obtain ⟨h1, h2⟩ := List.pairwise_cons.1 h
  have hx := hb x (by simp)
  have := rise_len (lo := x + 1) (hi := hi) h2 (fun z hz => ⟨by have := h1 z hz; omega, (hb z (by simp [hz])).2⟩) (by omega)
  rw [List.length_cons]
  omega
theorem SetS.len {n : Nat} {q : List Int} (h : SetS n q) : q.length ≤ n := by
 have := rise_len h.1 h.2 (by omega)
 omega
theorem SetS.in64 {n : Nat} {q : List Int} (h : SetS n q) (hn : n ≤ 400) : In64 q := fun z hz => by
 have := h.2 z hz
 constructor <;> omega
theorem SetS.zero {n : Nat} (h : 1 ≤ n) : SetS n [0] := ⟨List.pairwise_singleton _ _, fun z hz => by rw [List.mem_singleton.1 hz]; omega⟩
theorem SetS.step {a : Au} (W : WFA a) {k c : Nat} (hk : k < a.tr) (hc : c < 2 ^ (a.tr - 1)) {q : List Int} (h : SetS a.n q) : SetS a.n (stepS a k q c) := by
 refine ⟨rise_sortedZ _, fun z hz => ?_⟩
 obtain ⟨y, hy, u, hu, rfl⟩ := mem_nextP.1 ((mem_sortedZ _ z).1 hz)
 have := h.2 y hy
 have := W.go_lt (s := y.toNat) (c := putL k c u) (by omega) (put_lt hk hc hu)
 omega
/-- Does one of a set's states accept? -/
def anyS (acc : List Bool) (s : List Int) : Bool := s.any fun z => bvl acc z.toNat
/-! Numbered as they come. -/
theorem of_sorted {L : List (List Int)} {q : List Int} (h : RiseZ q) : (ofN L q < L.length ∧ ofL L q = L ∧ L[ofN L q]? = some q) ∨ (ofN L q = L.length ∧ ofL L q = L ++ [q] ∧ q ∉ L) := by
 unfold ofN ofL
 rw [sorted_id h]
 cases hn : numF 0 L q with
 | some i =>
  have h1 := (numF_some hn).2
  rw [Nat.sub_zero] at h1
  exact .inl ⟨(List.getElem?_eq_some_iff.1 h1).1, rfl, h1⟩
 | none => exact .inr ⟨rfl, rfl, numF_none hn⟩
/-- Rows that are made: whole ones, one under way. -/
structure PrI {α : Type} (δ : α → Nat → α) (s0 : α) (K : Nat) (L : List α) (rows : List (List Int)) (row : List Int) : Prop where
  ex : ∃ es, Expl δ s0 K L es ∧ rows.flatten ++ row = es.map fun v => ((v : Nat) : Int)
  len : ∀ r ∈ rows, r.length = K
  less : row.length ≤ K
section
variable {α : Type} {δ : α → Nat → α} {s0 : α} {K : Nat} {L : List α} {rows : List (List Int)} {row : List Int}
theorem PrI.start (δ : α → Nat → α) (s0 : α) (K : Nat) : PrI δ s0 K [s0] [] [] := ⟨⟨[], Expl.start δ s0 K, rfl⟩, fun r h => (by cases h), Nat.zero_le _⟩
theorem PrI.at_ (H : PrI δ s0 K L rows row) (hr : row.length < K) {es : List Nat} (e : rows.flatten ++ row = es.map fun v => ((v : Nat) : Int)) : es.length / K = rows.length ∧ es.length % K = row.length := by
 have h1 := congrArg List.length e
 rw [List.length_append, flat_len2 H.len, List.length_map] at h1
 rw [← h1, Nat.mul_comm]
 exact ⟨by rw [Nat.mul_add_div (by omega), Nat.div_eq_of_lt hr]; rfl, by rw [Nat.mul_add_mod]; exact Nat.mod_eq_of_lt hr⟩
theorem PrI.old (H : PrI δ s0 K L rows row) (hr : row.length < K) {s : α} (hs : L[rows.length]? = some s) {j : Nat} (hj : L[j]? = some (δ s row.length)) : PrI δ s0 K L rows (row ++ [((j : Nat) : Int)]) := by
 obtain ⟨es, E, e⟩ := H.ex
 obtain ⟨h1, h2⟩ := H.at_ hr e
 exact ⟨⟨es ++ [j], E.old (by rw [h1]; exact hs) (by rw [h2]; exact hj), by rw [← List.append_assoc, e, List.map_append]; rfl⟩, H.len, by rw [List.length_append]; simp; omega⟩
theorem PrI.new (H : PrI δ s0 K L rows row) (hr : row.length < K) {s : α} (hs : L[rows.length]? = some s) (hn : δ s row.length ∉ L) : PrI δ s0 K (L ++ [δ s row.length]) rows (row ++ [((L.length : Nat) : Int)]) := by
 obtain ⟨es, E, e⟩ := H.ex
 obtain ⟨h1, h2⟩ := H.at_ hr e
 have := E.new (by rw [h1]; exact hs) (by rw [h2]; exact hn)
 rw [h2] at this
 exact ⟨⟨es ++ [L.length], this, by rw [← List.append_assoc, e, List.map_append]; rfl⟩, H.len, by rw [List.length_append]; simp; omega⟩
theorem PrI.whole (H : PrI δ s0 K L rows row) (hr : row.length = K) : PrI δ s0 K L (rows ++ [row]) [] := by
 obtain ⟨es, E, e⟩ := H.ex
 refine ⟨⟨es, E, by simpa using e⟩, fun r h => ?_, Nat.zero_le _⟩
 rcases List.mem_append.1 h with h | h
 ·exact H.len r h
 ·rw [List.mem_singleton.1 h]; exact hr
theorem PrI.made {p : α → Bool} {m : Au} (H : PrI δ s0 m.K L m.nx []) (hl : m.nx.length = L.length) (ha : m.acc = L.map p) (ht : m.tr ≤ 6) (hm : L.length ≤ 400) : MadeA δ s0 p L m := by
 obtain ⟨es, E, e⟩ := H.ex
 rw [List.append_nil] at e
 exact ⟨⟨es, E, ⟨H.len, e⟩⟩, hl, ha, ht, hm⟩
theorem PrI.nodup (H : PrI δ s0 K L rows row) : L.Nodup := by obtain ⟨es, E, e⟩ := H.ex; exact E.nodup
theorem PrI.bound (H : PrI δ s0 K L rows row) : ∀ z ∈ rows.flatten ++ row, 0 ≤ z ∧ z < ((L.length : Nat) : Int) := by
 obtain ⟨es, E, e⟩ := H.ex
 intro z hz
 rw [e] at hz
 obtain ⟨v, hv, rfl⟩ := List.mem_map.1 hz
 obtain ⟨i, hi⟩ := List.getElem?_of_mem hv
 have := E.lt hi
 omega
theorem PrI.all (H : PrI δ s0 K L rows row) {Q : α → Prop} (h0 : Q s0) (hs : ∀ s c, Q s → c < K → Q (δ s c)) (hK : 0 < K) {s : α} (h : s ∈ L) : Q s := by
 obtain ⟨es, E, e⟩ := H.ex
 obtain ⟨i, hi⟩ := List.getElem?_of_mem h
 exact E.all h0 (fun s c hq hc => hs s c hq (hc hK)) i s hi
end
/-- A set more. -/
theorem PrI.id {a : Au} {k K : Nat} {L : List (List Int)} {rows : List (List Int)} {row q : List Int} (H : PrI (stepS a k) [0] K L rows row) (hr : row.length < K) (hs : L[rows.length]? = some q) : PrI (stepS a k) [0] K (ofL L (stepS a k q row.length)) rows (row ++ [((ofN L (stepS a k q row.length) : Nat) : Int)]) := by
  rcases of_sorted (L := L) (q := stepS a k q row.length) (rise_sortedZ _) with ⟨h1, h2, h3⟩ | ⟨h1, h2, h3⟩
  · rw [h2]; exact H.old hr hs h3
  · rw [h1, h2]; exact H.new hr hs h3
end Go.Proofs.YtiknomepbklibaaGreatDoor
