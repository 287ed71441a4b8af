/-
  Both of two automata: the reference's; a pair's number.
-/
import Derived.Test.YtiknomepbklibaaGreatDoorZoAcO
import Derived.Test.YtiknomepbklibaaGreatDoorZoPjP
import Derived.Test.YtiknomepbklibaaGreatDoorZoPoP
import Derived.Test.YtiknomepbklibaaGreatDoorZoPrJ
import Derived.Test.YtiknomepbklibaaGreatDoorZoR19
import Derived.Test.YtiknomepbklibaaGreatDoorZoPtl
namespace Go.Proofs.YtiknomepbklibaaGreatDoor
open Go Go.RowKit
set_option linter.unusedVariables false
set_option linter.unusedSimpArgs false
set_option linter.unnecessarySimpa false
set_option maxRecDepth 100000
set_option maxHeartbeats 4000000

/-- Pairs' cells. -/
def prC (l : List (Nat × Nat)) : List (List AV) := l.map fun p => [.int .i64 ((p.1 : Nat) : Int), .int .i64 ((p.2 : Nat) : Int)]
theorem prC_len (l : List (Nat × Nat)) : (prC l).length = l.length := by simp [prC]
theorem prC_get {l : List (Nat × Nat)} {i : Nat} {p : Nat × Nat} (h : l[i]? = some p) : (prC l)[i]? = some [.int .i64 ((p.1 : Nat) : Int), .int .i64 ((p.2 : Nat) : Int)] := by rw [prC, List.getElem?_map, h]; rfl
theorem prC_snoc (l : List (Nat × Nat)) (p : Nat × Nat) : prC (l ++ [p]) = prC l ++ [[.int .i64 ((p.1 : Nat) : Int), .int .i64 ((p.2 : Nat) : Int)]] := by simp [prC]
theorem eqAgg_pair (a b x y : Int) : eqAgg Tryz.prog 77 [.int .i64 a, .int .i64 b] [.int .i64 x, .int .i64 y] = bif' (eqI a x) (bif' (eqI b y) (some true) (some false)) (some false) := by kernel_rfl
theorem os_eqPr {G : Env} {K : List (Nat × AV)} {st : St} {x y : Operand} {yt : TypeId} {p q : Nat × Nat} (hx : opK G K x = some (.agg [.int .i64 ((p.1 : Nat) : Int), .int .i64 ((p.2 : Nat) : Int)])) (hy : opK G K y = some (.agg [.int .i64 ((q.1 : Nat) : Int), .int .i64 ((q.2 : Nat) : Int)])) : OpS Tryz.prog G K (.binOp .eql 77 x y yt) st (.bool (decide (p = q))) st :=
 os_bin hx hy (by
  show ob (eqAgg Tryz.prog 77 _ _) (fun r => some (AV.bool r)) = _
  rw [eqAgg_pair, eqI_dec, eqI_dec]
  have e : p = q ↔ ((p.1 : Nat) : Int) = ((q.1 : Nat) : Int) ∧ ((p.2 : Nat) : Int) = ((q.2 : Nat) : Int) := by
   rw [Prod.ext_iff]; omega
  by_cases h1 : ((p.1 : Nat) : Int) = ((q.1 : Nat) : Int) <;> by_cases h2 : ((p.2 : Nat) : Int) = ((q.2 : Nat) : Int) <;> simp [e, h1, h2, bif_true, bif_false, ob_some])
def NumOf (l : List (Nat × Nat)) (p : Nat × Nat) (l' : List (Nat × Nat)) (k : Nat) (was : Bool) : Prop := (was = true ∧ l' = l ∧ l[k]? = some p) ∨ (was = false ∧ p ∉ l ∧ l' = l ++ [p] ∧ k = l.length)
theorem NumOf.len {l : List (Nat × Nat)} {p : Nat × Nat} {l' : List (Nat × Nat)} {k : Nat} {was : Bool} (H : NumOf l p l' k was) : l.length ≤ l'.length ∧ l'.length ≤ l.length + 1 ∧ (was = true → l'.length = l.length) ∧ (was = false → l'.length = l.length + 1) := by
 rcases H with ⟨h1, h2, h3⟩ | ⟨h1, h2, h3, h4⟩
 ·subst h1 h2; exact ⟨Nat.le_refl _, by omega, fun _ => rfl, fun h => by cases h⟩
 ·subst h1 h3; simp
theorem NumOf.take {l : List (Nat × Nat)} {p : Nat × Nat} {l' : List (Nat × Nat)} {k : Nat} {was : Bool} (H : NumOf l p l' k was) {n : Nat} (hn : n ≤ l.length) : l'.take n = l.take n := by
 rcases H with ⟨h1, h2, h3⟩ | ⟨h1, h2, h3, h4⟩
 ·rw [h2]
 ·rw [h3, List.take_append_of_le_length hn]
theorem NumOf.pr {a b : Au} {K : Nat} {l l' : List (Nat × Nat)} {rows : List (List Int)} {row : List Int} (P : PrI (goP a b) (0, 0) K l rows row) (hr : row.length < K) {p : Nat × Nat} (hp : l[rows.length]? = some p) {q : Nat × Nat} (hq : goP a b p row.length = q) {k : Nat} {was : Bool} (H : NumOf l q l' k was) : PrI (goP a b) (0, 0) K l' rows (row ++ [((k : Nat) : Int)]) := by
 subst hq
 rcases H with ⟨h1, h2, h3⟩ | ⟨h1, h2, h3, h4⟩
 ·rw [h2]; exact P.old hr hp h3
 ·rw [h3, h4]; exact P.new hr hp h2
theorem PrI.pairs {a b : Au} (Wa : WFA a) (Wb : WFA b) (ht : b.tr = a.tr) {l : List (Nat × Nat)} {rows : List (List Int)} {row : List Int} (P : PrI (goP a b) (0, 0) (2 ^ a.tr) l rows row) : ∀ p ∈ l, p.1 < a.n ∧ p.2 < b.n := fun p hp =>
 P.all (Q := fun p => p.1 < a.n ∧ p.2 < b.n) ⟨Wa.pos, Wb.pos⟩ (fun s c h hc => ⟨Wa.go_lt h.1 hc, Wb.go_lt h.2 (by show c < 2 ^ b.tr; rw [ht]; exact hc)⟩) (Nat.two_pow_pos _) hp
theorem MemO.toNewAuX {st0 st : St} {X0 : Fp} {M A : Rows2} {Os : List Ob} {om : Ob} {F : Fp} {ka kn : AV} {vs : List AV} {a : Au} (B : MemO st0 X0 st (M ++ (A ++ [])) (lsO F kn vs a.nx :: om :: Os)) (hX : ∀ c, X0 c → om.F c) (hA : Acc 0 1 A ka (bC a.acc)) : NewAu st0 st a (.agg [.int .i64 ((a.tr : Nat) : Int), ka, kn]) := by
 have hn := B.nodup
 rw [List.append_nil, List.map_append] at hn
 refine ⟨ka, kn, vs, A, F, rfl, hA, B.at_ (k := 0) rfl, fun c hc => ⟨(B.lo_ (k := 0) rfl c hc).resolve_right fun h => (List.pairwise_cons.1 B.dj).1 om (by simp) c hc (hX c h), B.hi_ (k := 0) rfl c hc⟩, (List.nodup_append.1 hn).2.1, fun c m l hm => ⟨B.row c m l (by simp [hm]), (B.lo c m l (by simp [hm])).resolve_right fun h => B.djM om (by simp) c m l (by simp [hm]) (hX c h), B.djM _ (List.mem_cons_self ..) c m l (by simp [hm])⟩⟩
theorem MemO.newAuC {st0 st st' : St} {X0 : Fp} {M : Rows2} {Os : List Ob} {om om' : Ob} {k : Nat} (B0 : MemO st0 X0 st M Os) (hk : Os[k]? = some om) (hF : om'.F = om.F) (B : MemO st0 X0 st' M (Os.set k om')) {a : Au} {v : AV} (h : NewAu st st' a v) : ∃ ka kn vs A F, v = .agg [.int .i64 ((a.tr : Nat) : Int), ka, kn] ∧ Acc 0 1 A ka (bC a.acc) ∧ MemO st0 X0 st' (M ++ (A ++ [])) (lsO F kn vs a.nx :: Os.set k om') := by
 obtain ⟨ka, kn, vs, A, F, h1, h2, h3, h4, h5, h6⟩ := h
 have hold : ∀ p ∈ Os.set k om', ∀ c, p.F c → c < st.n := fun p hp c hc => by
  rcases List.mem_or_eq_of_mem_set hp with hp | rfl
  ·exact (B0.hi p hp c hc).1
  ·rw [hF] at hc; exact B0.hi_ hk c hc
 have hlt : ∀ c m l, (c, m, l) ∈ M → c < st.n := fun c m l hm => (B0.row c m l hm).lt B0.fresh
 have B1 := B.add (o := lsO F kn vs a.nx) h3 (fun c hc => ⟨(h4 c hc).2, Nat.le_trans B0.le (h4 c hc).1⟩) (fun p hp c hc hpc => by have := hold p hp c hpc; have := (h4 c hc).1; omega) (fun c m l hm hc => by have := hlt c m l hm; have := (h4 c hc).1; omega)
 refine ⟨ka, kn, vs, A, F, h1, h2, B1.fresh, B1.le, fun c m l hm => ?_, ?_, fun c m l hm => ?_, B1.obj, B1.hi, B1.dj, fun o ho c m l hm hc => ?_, B1.old⟩
 ·rw [List.append_nil] at hm
  rcases List.mem_append.1 hm with hm | hm
  ·exact B1.row c m l hm
  ·exact (h6 c m l hm).1
 ·rw [List.append_nil, List.map_append]
  refine List.nodup_append.2 ⟨B.nodup, h5, fun x hx y hy e => ?_⟩
  subst e
  obtain ⟨⟨c, m, l⟩, k1, rfl⟩ := List.mem_map.1 hx
  obtain ⟨⟨c', m', l'⟩, k2, k3⟩ := List.mem_map.1 hy
  simp only at k3
  subst k3
  have := hlt _ m l k1
  have := (h6 _ m' l' k2).2.1
  omega
 ·rw [List.append_nil] at hm
  rcases List.mem_append.1 hm with hm | hm
  ·exact B1.lo c m l hm
  ·exact .inl (Nat.le_trans B0.le (h6 c m l hm).2.1)
 ·rw [List.append_nil] at hm
  rcases List.mem_append.1 hm with hm | hm
  ·exact B1.djM o ho c m l hm hc
  ·rcases List.mem_cons.1 ho with rfl | ho
   ·exact (h6 c m l hm).2.2 hc
   ·have := hold o ho c hc
    have := (h6 c m l hm).2.1
    omega

theorem r20num_ev {st : St} (hf : Fresh st) {F : Fp} {kl : AV} {l : List (Nat × Nat)} (hO : AccAt st.h.get F 2 kl (prC l)) (hi : ∀ c, F c → c < st.n) (hl : l.length ≤ 1000) (p : Nat × Nat) : ∃ v st', Ev Tryz.prog envP 45 [kl, .agg [.int .i64 (((p.1 : Nat) : Int)), .int .i64 (((p.2 : Nat) : Int))]] st v st' ∧ ∃ kl' k was l' F', v = .tup [kl', .int .i64 ((k : Nat) : Int), .bool was] ∧ AccAt st'.h.get F' 2 kl' (prC l') ∧ MoreF st st' F F' ∧ ChgF F st st' ∧ NumOf l p l' k was := by
 have B := MemO.startO (o := accO F 2 kl (prC l)) hf hO hi
 obtain ⟨A, hA, B⟩ := B.openAcc
 refine ev_fn rfl Tryz.func45 rfl Tryz.ntmps45 rfl (by decide) (by simp) fun T hT => ?_
 have K : KnT [(0, _), (1, _)] T := (.cons (hT 0) (.cons (hT 1) .nil))
 have M := B.mem
 refine w_seq <| w_region ?_
 refine wr_box K M rfl rfl (by decide) fun c3 _ _ K M => ?_
 refine o1 K (os_assign rfl) rfl fun _ K => o1 K (os_assign rfl) rfl fun _ K => o1 K (os_assign rfl) rfl fun _ K => wr_nil ?_
 show W _ _ _ _ _ _ _
 refine w_seq <| w_seq <| w_region <| o1 K (os_assign rfl) rfl fun _ K => wr_nil ?_
 show W _ _ _ _ _ _ _
 refine w_block ?_
 refine w_loop (fun mm1 T st9 => ∃ (i : Nat), mm1 = l.length - i ∧ KnT [(0, kl), (3, .ptr c3 0 0), (7, .int .i64 (((i : Nat) : Int)))] T ∧ MemO st (accO F 2 kl (prC l)).F st9 ((c3, 0, [.int .i64 (((p.1 : Nat) : Int)), .int .i64 (((p.2 : Nat) : Int))]) :: (A ++ [])) [] ∧ i ≤ l.length ∧ (∀ (j : Nat) (x : Nat × Nat), j < i → l[j]? = some x → x ≠ p)) (fun mm1 T st9 hI => ?_) _ _ _ ⟨0, rfl, (.cons (K _ _ rfl) (.cons (K _ _ rfl) (.cons (K _ _ rfl) .nil))), (B.step M).less (.refl _), (Nat.zero_le _), (fun j x hj => absurd hj (Nat.not_lt_zero j))⟩
 obtain ⟨i, rfl, K, B, hil, hne⟩ := hI
 have M := B.mem
 refine w_seq <| w_seq <| w_region <| o1 K (os_move rfl) rfl fun _ K => o1 K (os_move rfl) rfl fun _ K => o1 K (os_lenL un_S_sibylref20_pair rfl rfl (hA.len.trans (congrArg some (prC_len _)))) rfl fun _ K => o1 K (os_lss rfl rfl) rfl fun _ K => wr_nil ?_
 show W _ _ _ _ _ _ _
 refine w_cond (K.opd rfl) (fun h11 => ?_) (fun h11 => ?_)
 ·have hb11 := h11
  replace h11 := of_decide_eq_true h11
  refine w_skip ?_
  show W _ _ _ _ _ _ _
  refine w_seq <| w_block <| w_seq ?_
  refine w_drawI (l := [(0, 0), (1, 0), (2, 0), (3, 0), (4, 0), (5, 0)]) (by kernel_rfl) ?_
  refine d1 rfl K (os_move rfl) rfl rfl fun _ K => d1 rfl K (os_move rfl) rfl rfl fun _ K => ?_
  obtain ⟨pr16, hi16⟩ : ∃ x, l[i]? = some x := ⟨_, List.getElem?_eq_getElem (by omega)⟩
  obtain ⟨x16, m16, f16, q16, _, la16, lo16, lp16⟩ := (Mem.accR (L := [(c3, 0, [.int .i64 (((p.1 : Nat) : Int)), .int .i64 (((p.2 : Nat) : Int))])]) (A := A) (B := []) M hA).load (i := i) (cs := _) (prC_get hi16)
  refine d1 rfl K (os_indexAddr (j := i) el_S_sibylref20_pair (congrArg some q16) rfl (by rw [prC_len]; omega)) rfl rfl fun _ K => d1 rfl K (os_load rfl (la16 _ tk_sibylref20_pair)) rfl rfl fun _ K => d1 rfl K (os_load rfl (M.load (k := 0) rfl (part_agg tk_sibylref20_pair rfl))) rfl rfl fun _ K => d1 rfl K (os_eqPr (p := pr16) (q := p) rfl rfl) rfl rfl fun _ K => wd_nil ?_
  show W _ _ _ _ _ _ _
  refine w_cond (K.opd rfl) (fun h19 => ?_) (fun h19 => ?_)
  ·have hb19 := h19
   replace h19 := of_decide_eq_true h19
   refine w_seq <| w_region <| o1 K (os_move rfl) rfl fun _ K => o1 K (os_move rfl) rfl fun _ K => o1 K (os_assign rfl) rfl fun _ K => o1 K (os_assign rfl) rfl fun _ K => o1 K (os_assign rfl) rfl fun _ K => wr_nil ?_
   show W _ _ _ _ _ _ _
   refine w_ret ?_
   refine ⟨.inr rfl, _, (res_three (rs_tmp K rfl) (rs_tmp K rfl) (rs_tmp K rfl)), ?_⟩
   replace B := (B.step M).less (.cons _ (.refl _))
   obtain ⟨F', B'⟩ := MemO.closeAcc (M := []) (A := A) B hA
   exact ⟨_, i, true, l, F', rfl, B'.at_ (k := 0) rfl, fun c hc => ⟨(B'.lo_ (k := 0) rfl c hc).symm, B'.hi_ (k := 0) rfl c hc⟩, B'.chgF, .inl ⟨rfl, rfl, by rw [hi16]; first | (rw [← h19]) | (rw [h19])⟩⟩
  have hb19 := h19
  replace h19 := of_decide_eq_false h19
  refine w_skip ?_
  show W _ _ _ _ _ _ _
  refine w_region <| o1 K (os_move rfl) rfl fun _ K => o1 K (os_add rfl rfl (by omega) (by omega)) rfl fun _ K => o1 K (os_assign rfl) rfl fun _ K => wr_nil ?_
  exact ⟨_, (by omega), i + 1, rfl, (.cons (K _ _ rfl) (.cons (K _ _ rfl) (.cons (K _ _ rfl) .nil))), (B.step M).less (.refl _), (by omega), (elems_more hne hi16 h19)⟩
 have hb11 := h11
 replace h11 := of_decide_eq_false h11
 refine w_exit ?_
 show W _ _ _ _ _ _ _
 refine w_seq ?_
 have hno : p ∉ l := fun hm => by obtain ⟨j, hj⟩ := List.getElem?_of_mem hm; exact hne j p (by have := (List.getElem?_eq_some_iff.1 hj).1; omega) hj rfl
 refine w_region <| o1 K (os_move rfl) rfl fun _ K => o1 K (os_load rfl (M.load (k := 0) rfl (part_agg tk_sibylref20_pair rfl))) rfl fun _ K => ?_
 refine wr_bs K M sl_S_sibylref20_pair ze_sibylref20_pair rfl rfl rfl rfl rfl fun c24 _ _ K M => ?_
 refine wr_acc00 (k2 := 0) (L := [(c24, 0, [.int .i64 (((p.1 : Nat) : Int)), .int .i64 (((p.2 : Nat) : Int))]), (c3, 0, [.int .i64 (((p.1 : Nat) : Int)), .int .i64 (((p.2 : Nat) : Int))])]) (A := A) (B := []) K M hA sl_S_sibylref20_pair rfl rfl rfl rfl (by rw [prC_len]; omega) rfl fun ks25 A25 _ _ K hA25 M => ?_
 refine o1 K (os_move rfl) rfl fun _ K => o1 K (os_lenL un_S_sibylref20_pair rfl rfl (hA.len.trans (congrArg some (prC_len _)))) rfl fun _ K => o1 K (os_assign rfl) rfl fun _ K => o1 K (os_assign rfl) rfl fun _ K => o1 K (os_assign rfl) rfl fun _ K => wr_nil ?_
 show W _ _ _ _ _ _ _
 refine w_ret ?_
 refine ⟨.inr rfl, _, (res_three (rs_tmp K rfl) (rs_tmp K rfl) (rs_tmp K rfl)), ?_⟩
 replace B := (B.step M).less (.cons _ (.cons _ (.refl _)))
 obtain ⟨F', B'⟩ := MemO.closeAcc (M := []) (A := A25) (ls := prC (l ++ [p])) B (by rw [prC_snoc]; exact hA25)
 exact ⟨_, l.length, false, l ++ [p], F', rfl, B'.at_ (k := 0) rfl, fun c hc => ⟨(B'.lo_ (k := 0) rfl c hc).symm, B'.hi_ (k := 0) rfl c hc⟩, B'.chgF, .inr ⟨rfl, fun hm => hno hm, rfl, rfl⟩⟩
end Go.Proofs.YtiknomepbklibaaGreatDoor
