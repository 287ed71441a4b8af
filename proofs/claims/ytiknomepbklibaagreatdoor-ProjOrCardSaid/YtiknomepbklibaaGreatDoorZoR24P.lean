/-
  What both of two automata leave in memory.
-/
import Derived.Test.YtiknomepbklibaaGreatDoorZoR20B
import Derived.Test.YtiknomepbklibaaGreatDoorZoPoP
import Derived.Test.YtiknomepbklibaaGreatDoorZoPrP
section
namespace Go.Proofs.YtiknomepbklibaaGreatDoor
open Go Go.RowKit
set_option linter.unusedVariables false
set_option maxRecDepth 100000

/-- Things at two places are apart. -/
theorem MemO.off2 {st0 st : St} {X0 : Fp} {M : Rows2} {Os : List Ob} {o p : Ob} (B : MemO st0 X0 st M Os) {j k : Nat} (hj : Os[j]? = some o) (hk : Os[k]? = some p) (hne : j ≠ k) : ∀ c, o.F c → ¬ p.F c := fun c h1 h2 => by
  have hjl := (List.getElem?_eq_some_iff.1 hj).1
  have hkl := (List.getElem?_eq_some_iff.1 hk).1
  have hpw := List.pairwise_iff_getElem.1 B.dj
  have ej : Os[j] = o := (List.getElem?_eq_some_iff.1 hj).2
  have ek : Os[k] = p := (List.getElem?_eq_some_iff.1 hk).2
  rcases Nat.lt_or_ge j k with hlt | hge
  · exact hpw j k hjl hkl hlt c (by rw [ej]; exact h1) (by rw [ek]; exact h2)
  · exact hpw k j hkl hjl (by omega) c (by rw [ek]; exact h2) (by rw [ej]; exact h1)
theorem LsAt.none (h : Hp) : LsAt h noX .nils [] [] := ⟨.nil _ _ _, ⟨rfl, fun i s hi => by simp at hi⟩, fun c m o n y e => by cases e⟩
/-- One shape for both ends: rows of its own, a thing, and what they are if it went well. -/
theorem MemO.both {st0 st st' : St} {X0 : Fp} {M : Rows2} {Os : List Ob} {k mp l t : Nat} {a b : Au} {v : AV} (B : MemO st0 X0 st M Os) (hk : Os[k]? = some (mtO mp l false)) (Q : ChgF (fun c => c = mp) st st') (H : BothR st st' a b t mp l v) :
    ∃ (tz : Int) (kx ky : AV) (e : Int) (acc : List Bool) (nxs : List (List Int)) (vs : List AV) (A : Rows2) (F : Fp) (l2 : Nat), v = .tup [.agg [.int .i64 tz, kx, ky], .int .i64 e] ∧ Acc 0 1 A kx (bC acc) ∧ MemO st0 X0 st' (M ++ (A ++ [])) (lsO F ky vs nxs :: Os.set k (mtO mp l2 false)) ∧
      ((e = 0 ∧ ∃ lp, tz = ((a.tr : Nat) : Int) ∧ BothA a b t lp ⟨a.tr, acc, nxs⟩) ∨
       (e = 8 ∧ ∃ lp : List (Nat × Nat), lp.length = 401 ∧ lp.Nodup ∧ ∀ (Q : Nat × Nat → Prop), Q (0, 0) → (∀ p c, Q p → c < 2 ^ a.tr → Q (goP a b p c)) → ∀ p ∈ lp, Q p)) := by
  have hB : ∀ l2, Row1 st'.h.get mp 0 [.int .i64 ((l2 : Nat) : Int), .bool false] → MemO st0 X0 st' M (Os.set k (mtO mp l2 false)) := fun l2 hr =>
    B.call (k := k) (o' := mtO mp l2 false) hk Q hr (noMore fun c hc => by rw [show c = mp from hc]; exact hr.lt Q.fresh)
  rcases H with ⟨x, lp, m, rfl, h2, h3, h4⟩ | ⟨lp, rfl, h2, h3, h4, h5⟩
  · obtain ⟨ka, kn, vs, A, F, rfl, k2, k3⟩ := B.newAuC (om := mtO mp l false) (om' := mtO mp (l - lp.length) false) hk rfl (hB _ h4) h3
    have ht : m.tr = a.tr := h2.2
    obtain ⟨mt, ma, mx⟩ := m
    simp only at ht
    subst ht
    exact ⟨_, ka, kn, 0, ma, mx, vs, A, F, _, rfl, k2, k3, .inl ⟨rfl, lp, rfl, h2⟩⟩
  · have B1 := hB _ h5
    refine ⟨0, .nils, .nils, 8, [], [], [], [], noX, l - 401, rfl, .none, ?_, .inr ⟨rfl, lp, h2, h3, h4⟩⟩
    have B2 := B1.add (o := lsO noX .nils [] []) (LsAt.none _) (fun c hc => hc.elim) (fun p hp c hc => hc.elim) (fun c m l hm hc => hc)
    exact B2.cast (by simp)
end Go.Proofs.YtiknomepbklibaaGreatDoor
end
section
namespace Go.Proofs.YtiknomepbklibaaGreatDoor
open Go Go.RowKit
set_option linter.unusedVariables false

section
variable {a b o x y z : Au} {lo : List (Nat × Nat)} {k : Nat} {ca cb co : List Bool} {Lx Ly Lz : List (List Int)}
/-- As many pairs as sets at the most. -/
theorem or_small (ho : BothA a b 14 lo o) (hab : b.tr = a.tr) (hk : k < a.tr) (hx : MadeA (stepS a k) [0] (anyS ca) Lx x) (hy : MadeA (stepS b k) [0] (anyS cb) Ly y) (hz : MadeA (stepS o k) [0] (anyS co) Lz z) (tx : x.tr = a.tr - 1) (ty : y.tr = b.tr - 1) (tz : z.tr = o.tr - 1)
    {lp : List (Nat × Nat)} (hn : lp.Nodup) (h : ∀ (Q : Nat × Nat → Prop), Q (0, 0) → (∀ p c, Q p → c < 2 ^ x.tr → Q (goP x y p c)) → ∀ p ∈ lp, Q p) : lp.length ≤ 400 := by
  have hto : o.tr = a.tr := ho.2
  have h1 := nodup_le (b := Lz.map fun S => (Lx.idxOf (fstS lo S), Ly.idxOf (sndS lo S))) hn (fun p hp => by
    obtain ⟨w, hw, rfl⟩ := h (fun p => ∃ w, LetK (2 ^ x.tr) w ∧ p = (x.run 0 w, y.run 0 w)) ⟨[], (fun c hc => by cases hc), rfl⟩ (fun p c hp hc => by
      obtain ⟨w, hw, rfl⟩ := hp
      refine ⟨w ++ [c], fun d hd => ?_, by rw [Au.run_app, Au.run_app]; rfl⟩
      rcases List.mem_append.1 hd with hd | hd
      · exact hw d hd
      · rw [List.mem_singleton.1 hd]; exact hc) p hp
    have hwa : LetK (2 ^ (a.tr - 1)) w := by rw [← tx]; exact hw
    have hwy : LetK y.K w := by unfold Au.K; rw [ty, hab]; exact hwa
    have hwz : LetK z.K w := by unfold Au.K; rw [tz, hto]; exact hwa
    have e1 := hx.run w hx.head hw
    have e2 := hy.run w hy.head hwy
    have e3 := hz.run w hz.head hwz
    refine List.mem_map.2 ⟨_, List.mem_of_getElem? e3, ?_⟩
    rw [fst_fold ho hk hwa, snd_fold ho hab hk hwa]
    have key : ∀ {L : List (List Int)} {i : Nat} {s : List Int}, L.Nodup → L[i]? = some s → L.idxOf s = i := fun {L i s} hd hi => by
      have hm := List.idxOf_lt_length_of_mem (List.mem_of_getElem? hi)
      exact (List.getElem?_inj hm hd).1 (by rw [List.getElem?_eq_getElem hm, List.getElem_idxOf, hi])
    rw [key hx.nodup e1, key hy.nodup e2])
  rw [List.length_map] at h1
  have := hz.most
  omega
theorem or_like (Wa : WFA a) (Wb : WFA b) (Wo : WFA o) (ho : BothA a b 14 lo o) (hab : b.tr = a.tr) (hk : k < a.tr) (ha : ClAcc a k ca) (hb : ClAcc b k cb) (hc : ClAcc o k co) (hx : MadeA (stepS a k) [0] (anyS ca) Lx x) (hy : MadeA (stepS b k) [0] (anyS cb) Ly y) (hz : MadeA (stepS o k) [0] (anyS co) Lz z) (tx : x.tr = a.tr - 1) (ty : y.tr = b.tr - 1) (tz : z.tr = o.tr - 1)
  {w : Au} {lw : List (Nat × Nat)} (hw : BothA x y 14 lw w) : Like w z 0 0 := fun u hu => by
 have hto : o.tr = a.tr := ho.2
 have hux : LetK x.K u := by unfold Au.K at hu ⊢; rw [← hw.2]; exact hu
 have hua : LetK (2 ^ (a.tr - 1)) u := by rw [← tx]; exact hux
 have huy : LetK y.K u := by unfold Au.K; rw [ty, hab]; exact hua
 have huz : LetK z.K u := by unfold Au.K; rw [tz, hto]; exact hua
 rw [hw.lang hux, tab_or, hx.lang hux, hy.lang huy, hz.lang huz, any_or Wa Wb Wo ho hab hk ha hb hc hua]
end
end Go.Proofs.YtiknomepbklibaaGreatDoor
end
section
namespace Go.Proofs.YtiknomepbklibaaGreatDoor
open Go Go.RowKit
set_option linter.unusedVariables false

theorem cv_at {cl : List Int} {s : Nat} {y : Int} (h : cl[s]? = some y) : cv cl s = y := by unfold cv; rw [h]; rfl
theorem cv_set {l : List Int} {j s : Nat} {x : Int} (hj : j < l.length) : cv (l.set j x) s = if s = j then x else cv l s := by
 unfold cv
 rw [List.getElem?_set]
 by_cases h : j = s
 ·subst h
  rw [if_pos rfl, if_pos hj, if_pos rfl]; rfl
 ·rw [if_neg h, if_neg fun e => h e.symm]
/-! Signs. -/
def sgnT (a : Au) (cl : List Int) (s c : Nat) : List Int := cv cl s :: (List.range c).map fun c => cv cl (a.go s c)
def sgn (a : Au) (cl : List Int) (s : Nat) : List Int := sgnT a cl s a.K
theorem sgnT_succ (a : Au) (cl : List Int) (s c : Nat) : sgnT a cl s (c + 1) = sgnT a cl s c ++ [cv cl (a.go s c)] := by
 unfold sgnT; rw [List.range_succ, List.map_append]; rfl
theorem sgnT_len (a : Au) (cl : List Int) (s c : Nat) : (sgnT a cl s c).length = c + 1 := by simp [sgnT]
theorem sgn_iff {a : Au} {cl : List Int} {s t : Nat} : sgn a cl s = sgn a cl t ↔ cv cl s = cv cl t ∧ ∀ c, c < a.K → cv cl (a.go s c) = cv cl (a.go t c) := by
 unfold sgn sgnT
 rw [List.cons.injEq, List.map_inj_left]
 exact ⟨fun h => ⟨h.1, fun c hc => h.2 c (List.mem_range.2 hc)⟩, fun h => ⟨h.1, fun c hc => h.2 c (List.mem_range.1 hc)⟩⟩
structure FinI (a : Au) (cl : List Int) (i : Nat) (SG : List (List Int)) (out : List Int) : Prop where
 len : out.length = i
 nodup : SG.Nodup
 num : ∀ s, s < i → ∃ v : Nat, out[s]? = some ((v : Nat) : Int) ∧ SG[v]? = some (sgn a cl s)
 all : ∀ v, v < SG.length → ∃ s, s < i ∧ SG[v]? = some (sgn a cl s)
section
variable {a : Au} {cl out : List Int} {i : Nat} {SG : List (List Int)}
theorem FinI.start (a : Au) (cl : List Int) : FinI a cl 0 [] [] := ⟨rfl, List.nodup_nil, fun s h => absurd h (Nat.not_lt_zero s), fun v h => absurd h (Nat.not_lt_zero v)⟩
theorem FinI.old (H : FinI a cl i SG out) {v : Nat} (hv : SG[v]? = some (sgn a cl i)) : FinI a cl (i + 1) SG (out ++ [((v : Nat) : Int)]) := by
 refine ⟨by simp [H.len], H.nodup, fun s hs => ?_, fun v hv => ?_⟩
 ·by_cases h : s < i
  ·obtain ⟨w, h1, h2⟩ := H.num s h
   exact ⟨w, by rw [List.getElem?_append_left (by rw [H.len]; exact h)]; exact h1, h2⟩
  ·have e : s = i := by omega
   subst e
   exact ⟨v, by rw [List.getElem?_append_right (by rw [H.len]; exact Nat.le_refl _), H.len, Nat.sub_self]; rfl, hv⟩
 ·obtain ⟨s, h1, h2⟩ := H.all v hv
  exact ⟨s, by omega, h2⟩
theorem FinI.new (H : FinI a cl i SG out) (hn : sgn a cl i ∉ SG) : FinI a cl (i + 1) (SG ++ [sgn a cl i]) (out ++ [((SG.length : Nat) : Int)]) := by
 have H2 : FinI a cl i SG out := H
 refine ⟨by simp [H.len], List.nodup_append.2 ⟨H.nodup, by simp, fun x hx y hy e => ?_⟩, fun s hs => ?_, fun v hv => ?_⟩
 ·rw [List.mem_singleton] at hy
  subst hy e
  exact hn hx
 ·by_cases h : s < i
  ·obtain ⟨w, h1, h2⟩ := H.num s h
   exact ⟨w, by rw [List.getElem?_append_left (by rw [H.len]; exact h)]; exact h1, by rw [List.getElem?_append_left (List.getElem?_eq_some_iff.1 h2).1]; exact h2⟩
  ·have e : s = i := by omega
   subst e
   exact ⟨SG.length, by rw [List.getElem?_append_right (by rw [H.len]; exact Nat.le_refl _), H.len, Nat.sub_self]; rfl, by rw [List.getElem?_append_right (Nat.le_refl _), Nat.sub_self]; rfl⟩
 ·rw [List.length_append, List.length_singleton] at hv
  by_cases h : v < SG.length
  ·obtain ⟨s, h1, h2⟩ := H.all v h
   exact ⟨s, by omega, by rw [List.getElem?_append_left h]; exact h2⟩
  ·have e : v = SG.length := by omega
   subst e
   exact ⟨i, by omega, by rw [List.getElem?_append_right (Nat.le_refl _), Nat.sub_self]; rfl⟩
theorem FinI.le (H : FinI a cl i SG out) : SG.length ≤ i := by
 have := nodup_le (b := (List.range i).map fun s => sgn a cl s) H.nodup fun x hx => by
  obtain ⟨v, hv⟩ := List.getElem?_of_mem hx
  obtain ⟨s, h1, h2⟩ := H.all v (List.getElem?_eq_some_iff.1 hv).1
  rw [hv] at h2
  injection h2 with h2
  exact List.mem_map.2 ⟨s, List.mem_range.2 h1, h2.symm⟩
 simpa using this
theorem FinI.done (H : FinI a cl a.n SG out) : Finer a cl out ∧ Onto a.n out SG.length := by
 refine ⟨⟨H.len, fun s t hs ht => ?_⟩, ⟨fun s hs => ?_, fun v hv => ?_⟩⟩
 ·obtain ⟨v, h1, h2⟩ := H.num s hs
  obtain ⟨w, h3, h4⟩ := H.num t ht
  rw [cv_at h1, cv_at h3, ← sgn_iff]
  constructor
  ·intro e
   have e : v = w := by omega
   subst e
   rw [h2] at h4
   injection h4
  ·intro e
   rw [← e] at h4
   have := (List.getElem?_inj (List.getElem?_eq_some_iff.1 h2).1 H.nodup).1 (h2.trans h4.symm)
   rw [this]
 ·obtain ⟨v, h1, h2⟩ := H.num s hs
  have := (List.getElem?_eq_some_iff.1 h2).1
  rw [cv_at h1]
  omega
 ·obtain ⟨s, h1, h2⟩ := H.all v hv
  obtain ⟨w, h3, h4⟩ := H.num s h1
  have := (List.getElem?_inj (List.getElem?_eq_some_iff.1 h4).1 H.nodup).1 (h4.trans h2.symm)
  exact ⟨s, h1, by rw [cv_at h3, this]⟩
end
theorem onto_n {n : Nat} {cl : List Int} {k : Nat} (h : Onto n cl k) : k ≤ n := by
 have := nodup_le (a := List.range k) (b := (List.range n).map fun s => (cv cl s).toNat) List.nodup_range fun v hv => by
  obtain ⟨s, h1, h2⟩ := h.2 v (List.mem_range.1 hv)
  exact List.mem_map.2 ⟨s, List.mem_range.2 h1, by rw [h2]; rfl⟩
 simpa using this
/-- Classes on the way. -/
theorem cls_more {a : Au} (W : WFA a) {cl out : List Int} {was k : Nat} (hF : Fine a cl) (hw : was = 0 ∨ Onto a.n cl was) (f : Finer a cl out) (ho : Onto a.n out k) : Fine a out ∧ was ≤ k ∧ (k = was → ClsOk a out) := by
  have hk : 0 < k := by
    have := ho.1 0 W.pos
    omega
  refine ⟨hF.finer W f, ?_, fun e => ?_⟩
  · rcases hw with h | h
    · omega
    · exact (onto_le f h ho).1
  · subst e
    rcases hw with h | h
    · omega
    · exact (hF.finer W f).stable W (stable_move W f (stable_of_same f ((onto_le f h ho).2 rfl)))
/-- The first classes. -/
def FirstI (a : Au) (i : Nat) (cl : List Int) : Prop := cl.length = a.n ∧ ∀ s, s < a.n → cv cl s = if s < i ∧ a.ok s ≠ a.ok 0 then 1 else 0
theorem FirstI.start (a : Au) : FirstI a 0 (List.replicate a.n 0) := ⟨by simp, fun s hs => by
 unfold cv
 rw [List.getElem?_replicate, if_pos hs]
 simp⟩
theorem FirstI.no {a : Au} {i : Nat} {cl : List Int} (H : FirstI a i cl) (h : a.ok i = a.ok 0) : FirstI a (i + 1) cl := ⟨H.1, fun s hs => by
 rw [H.2 s hs]
 by_cases e : s = i
 ·subst e; simp [h]
 ·have : s < i ↔ s < i + 1 := by omega
  simp [this]⟩
theorem FirstI.yes {a : Au} {i : Nat} {cl : List Int} (H : FirstI a i cl) (hi : i < a.n) (h : a.ok i ≠ a.ok 0) : FirstI a (i + 1) (cl.set i 1) := ⟨by simp [H.1], fun s hs => by
 rw [cv_set (by rw [H.1]; exact hi), H.2 s hs]
 by_cases e : s = i
 ·subst e; simp [h]
 ·have : s < i ↔ s < i + 1 := by omega
  simp [this, e]⟩
theorem FirstI.done {a : Au} {cl : List Int} (H : FirstI a a.n cl) : Fine a cl := fine_first H.1 fun s t hs ht => by
 rw [H.2 s hs, H.2 t ht]
 cases h1 : a.ok s <;> cases h2 : a.ok t <;> cases h3 : a.ok 0 <;> simp [hs, ht]
/-! Numbers of classes. -/
structure NumI (n : Nat) (L nu : List Int) : Prop where
 len : nu.length = n
 yes : ∀ (j : Nat) (x : Int), L[j]? = some x → cv nu x.toNat = ((j : Nat) : Int)
 no : ∀ (x : Int), 0 ≤ x → x < n → x ∉ L → cv nu x.toNat = -1
 rng : ∀ x ∈ L, 0 ≤ x ∧ x < ((n : Nat) : Int)
theorem NumI.new {n : Nat} {L nu : List Int} (H : NumI n L nu) {x : Int} (h0 : 0 ≤ x) (h1 : x < n) (hx : x ∉ L) : NumI n (L ++ [x]) (nu.set x.toNat ((L.length : Nat) : Int)) := by
 have hl : x.toNat < nu.length := by rw [H.len]; omega
 refine ⟨by simp [H.len], fun j y hj => ?_, fun y k0 k1 hy => ?_, fun y hy => ?_⟩
 ·rw [cv_set hl]
  by_cases e : j < L.length
  ·rw [List.getElem?_append_left e] at hj
   have hne : y ≠ x := fun e => hx (e ▸ List.mem_of_getElem? hj)
   have := H.rng y (List.mem_of_getElem? hj)
   rw [if_neg (by omega)]
   exact H.yes j y hj
  ·have hlt := (List.getElem?_eq_some_iff.1 hj).1
   rw [List.length_append, List.length_singleton] at hlt
   have e : j = L.length := by omega
   subst e
   rw [List.getElem?_append_right (Nat.le_refl _), Nat.sub_self] at hj
   injection hj with hj
   subst hj
   rw [if_pos rfl]
 ·rw [cv_set hl]
  have hne : y ≠ x := fun e => hy (by rw [e]; simp)
  rw [if_neg (by omega)]
  exact H.no y k0 k1 fun h => hy (by simp [h])
 ·rcases List.mem_append.1 hy with hy | hy
  ·exact H.rng y hy
  ·rw [List.mem_singleton.1 hy]; exact ⟨h0, h1⟩
theorem NumI.start {n : Nat} {nu : List Int} (hl : nu.length = n) (h : ∀ s, s < n → cv nu s = -1) {x : Int} (h0 : 0 ≤ x) (h1 : x < n) : NumI n [x] (nu.set x.toNat 0) := by
 have H : NumI n [] nu := ⟨hl, fun j x hj => by simp at hj, fun x k0 k1 _ => h _ (by omega), fun x hx => by cases hx⟩
 exact H.new h0 h1 (by simp)
theorem NumI.mem {n : Nat} {L nu : List Int} (H : NumI n L nu) {x : Int} (h0 : 0 ≤ x) (h1 : x < n) {y : Int} (hy : cv nu x.toNat = y) : (y < 0 ∧ x ∉ L) ∨ (∃ j : Nat, y = ((j : Nat) : Int) ∧ L[j]? = some x) := by
 by_cases hx : x ∈ L
 ·obtain ⟨j, hj⟩ := List.getElem?_of_mem hx
  exact .inr ⟨j, by rw [← hy, H.yes j x hj], hj⟩
 ·exact .inl ⟨by rw [← hy, H.no x h0 h1 hx]; decide, hx⟩
end Go.Proofs.YtiknomepbklibaaGreatDoor
end
