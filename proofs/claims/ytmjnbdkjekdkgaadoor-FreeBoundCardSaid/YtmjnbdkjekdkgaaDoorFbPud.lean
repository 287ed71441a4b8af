/-
  free.Put: any terms put for any names in any node.
-/
import Derived.Test.YtmjnbdkjekdkgaaDoorFbPuc
namespace Go.Proofs.YtmjnbdkjekdkgaaDoor
open Go Go.RowKit
set_option linter.unusedVariables false
set_option linter.unusedSimpArgs false
set_option linter.unnecessarySimpa false
set_option maxRecDepth 100000
set_option maxHeartbeats 1000000

theorem KidsG.toR {R : Rws} {kids : List Nd} {kk : AV} {ls : List (List AV)} (K : KidsG R kids kk ls) {h : Hp} (hi : inH R h) : KidsR h kids kk ls :=
 ⟨K.r hi, K.ln, fun i k hk => by obtain ⟨cs, h1, h2⟩ := K.get hk; exact ⟨cs, h1, h2.toN hi⟩⟩
theorem szL_lt (o s : List Nat) (z a : Int) (l : List Nd) : szL l < szN (.mk o s z a l) := by rw [szN]; omega
theorem fillA_one {place : Nat → Option (Nat × Nat)} {i off : Nat} {v : AV} {ps : List (Nat × AV)} {l l1 : List AV} (hp : place i = some (off, 1)) (hc : isCell v = true) (ho : overL [v] off l = some l1) : fillA place ((i, v) :: ps) l = fillA place ps l1 := by
 rw [fillA_cons, hp, Qo, cells_one hc]
 show need true (ob (overL [v] off l) _) = _
 rw [ho]; rfl
theorem num_eq (k : Nd) : k.num = k.num' := by cases k; rfl
theorem joinG_ev {R : Rws} {o s : List Nat} {z a : Int} {l : List Nd} {kk : AV} {st : St} (hf : Fresh st) (hR : inH R st.h.get) (hr : RdG R (.mk o s z a l) [.str o, .str s, .int .i64 z, .int .i64 a, kk]) (hz : 0 ≤ z ∧ z ≤ 100000) (hkb : ∀ k, l[0]? = some k → 0 ≤ k.num' ∧ k.num' ≤ 100000) :
  ∃ v st', Ev Tryd.prog envD 30 [.agg [.str o, .str s, .int .i64 z, .int .i64 a, kk]] st v st' ∧ (∃ o' s' z' a' l' kk', joinN o s z a l = .mk o' s' z' a' l' ∧ v = .agg [.str o', .str s', .int .i64 z', .int .i64 a', kk'] ∧ RdG R (.mk o' s' z' a' l') [.str o', .str s', .int .i64 z', .int .i64 a', kk']) ∧ Qt st st' := by
 obtain ⟨kk', ls, e, K, hb⟩ := hr.open5
 injection e with _ e
 injection e with _ e
 injection e with _ e
 injection e with _ e
 injection e with e _
 subst e
 obtain ⟨v, st', h1, h2, h3⟩ := join_ev (o := o) (s := s) (z := z) (a := a) hf (K.toR hR) hz (fun k hk => by rw [num_eq]; exact hkb k hk)
 refine ⟨v, st', h1, ?_, h3⟩
 by_cases hp : o = oPlus ∧ ((l.length : Nat) : Int) = 1
 ·rw [if_pos hp] at h2
  obtain ⟨hp1, hp2⟩ := hp
  obtain ⟨k, hk⟩ : ∃ k, l[0]? = some k := ⟨_, List.getElem?_eq_getElem (by omega)⟩
  have hl := kid_one hk (by omega)
  subst hl
  obtain ⟨kc, hkc, hkr⟩ := K.get hk
  obtain ⟨ok, sk, zk, ak, lk, kkk, lsk, rfl, rfl, Kk, hbk⟩ := hkr.five
  rw [hkc] at h2
  have hj : joinN o s z a [.mk ok sk zk ak lk] = if ok = [110, 117, 109] then .mk [110, 117, 109] [] (z + zk) a [] else if ok = [112, 108, 117, 115] then .mk o s (z + zk) a lk else .mk o s z a [.mk ok sk zk ak lk] := by
   subst hp1; rfl
  rw [hj]
  by_cases h4 : ok = [110, 117, 109]
  ·rw [if_pos h4]
   refine ⟨_, _, _, _, _, .nils, rfl, ?_, .leaf rfl rfl by_num⟩
   rw [h2]
   simp [joinC, oNum, h4]
  ·rw [if_neg h4]
   by_cases h5 : ok = [112, 108, 117, 115]
   ·rw [if_pos h5]
    refine ⟨_, _, _, _, _, kkk, rfl, ?_, Kk.node hb⟩
    rw [h2]
    simp [joinC, oNum, oPlus, h4, h5]
   ·rw [if_neg h5]
    refine ⟨_, _, _, _, _, kk, rfl, ?_, hr⟩
    rw [h2]
    simp [joinC, oNum, oPlus, h4, h5]
 ·rw [if_neg hp] at h2
  have hj : joinN o s z a l = .mk o s z a l := by
   unfold joinN
   split
   ·rename_i ho
    match l, hp with
    | [], _ => rfl
    | [k], hp => exact absurd ⟨ho, rfl⟩ hp
    | _ :: _ :: _, _ => rfl
   ·rfl
  rw [hj]
  exact ⟨_, _, _, _, _, kk, rfl, h2, hr⟩
theorem setAt_num (t : Nd) (a : Int) : (t.setAt a).num' = t.num' := by cases t; rfl
theorem var_num {C : Int} {k : Nd} {ns : List (List Nat)} {ts : List Nd} (hk : k.op = [118, 97, 114]) (hok : okB C k = true) (ht : ∀ t ∈ ts, 0 ≤ t.num' ∧ t.num' ≤ C) : 0 ≤ (putN cntN k ns ts).num' ∧ (putN cntN k ns ts).num' ≤ C := by
 obtain ⟨o, s, z, a, l⟩ := k
 have hk : o = [118, 97, 114] := hk
 subst hk
 obtain ⟨_, hz0, hzC, _⟩ := okB_open hok
 rw [putN]
 split
 ·rename_i h
  obtain ⟨t, h2⟩ := Option.isSome_iff_exists.1 h.2
  rw [h2]
  show 0 ≤ (t.setAt a).num' ∧ (t.setAt a).num' ≤ C
  rw [setAt_num]
  exact ht t (lookT_mem h2)
 ·rw [if_neg (by simp), if_neg (by simp)]
  unfold joinN
  rw [if_neg (by decide)]
  exact ⟨hz0, hzC⟩
theorem put_num {C : Int} {x : Nd} {ns : List (List Nat)} {ts : List Nd} (hok : okB C x = true) (hC : 0 ≤ C) (ht : ∀ t ∈ ts, 0 ≤ t.num' ∧ t.num' ≤ C) : 0 ≤ (putN cntN x ns ts).num' ∧ (putN cntN x ns ts).num' ≤ 2 * C := by
 obtain ⟨o, s, z, a, l⟩ := x
 obtain ⟨_, hz0, hzC, _, hkids, hvar⟩ := okB_open hok
 rw [putN]
 split
 ·rename_i h
  obtain ⟨t, h2⟩ := Option.isSome_iff_exists.1 h.2
  rw [h2]
  show 0 ≤ (t.setAt a).num' ∧ (t.setAt a).num' ≤ 2 * C
  rw [setAt_num]
  have := ht t (lookT_mem h2)
  omega
 ·split
  ·split
   ·show 0 ≤ z ∧ z ≤ 2 * C; omega
   ·show 0 ≤ z ∧ z ≤ 2 * C; omega
  ·split
   ·show 0 ≤ z ∧ z ≤ 2 * C; omega
   ·unfold joinN
    split
    ·rename_i hp
     split
     ·rename_i k hk
      rw [putL_map] at hk
      obtain ⟨k0, hk0, rfl⟩ : ∃ k0, k0 ∈ l ∧ putN cntN k0 ns ts = k := by
       have : k ∈ l.map fun k => putN cntN k ns ts := by rw [hk]; exact List.mem_cons_self ..
       exact List.mem_map.1 this
      have hb := var_num (ns := ns) (hvar hp k0 hk0) (hkids k0 hk0) ht
      split
      ·show 0 ≤ z + _ ∧ z + _ ≤ 2 * C; omega
      ·split
       ·show 0 ≤ z + _ ∧ z + _ ≤ 2 * C; omega
       ·show 0 ≤ z ∧ z ≤ 2 * C; omega
     ·show 0 ≤ z ∧ z ≤ 2 * C; omega
    ·show 0 ≤ z ∧ z ≤ 2 * C; omega
theorem RdG.setAt {R : Rws} {o s o' s' : List Nat} {z a a' z' : Int} {l : List Nd} {kk : AV} {t : Nd} (r : RdG R t [.str o, .str s, .int .i64 z, .int .i64 a, kk]) : RdG R (t.setAt a') [.str o, .str s, .int .i64 z, .int .i64 a', kk] := by
 obtain ⟨o1, s1, z1, a1, l1⟩ := t
 obtain ⟨kk', ls, e, K, hb⟩ := r.open5
 injection e with e1 e
 injection e with e2 e
 injection e with e3 e
 injection e with e4 e
 injection e with e5 _
 injection e1 with e1
 injection e2 with e2
 injection e3 with _ e3
 subst e1 e2 e3 e5
 exact K.node hb

theorem pNode_ev (C : Int) (x : Nd) : ∀ (R : Rws) (ns : List (List Nat)) (ts : List Nd) (kn kt : AV) (lts : List (List AV)) (B0 : Nat) (st : St) (cs : List AV), Fresh st → inH R st.h.get → RdG R x cs → RdR st.h.get [] 1 (txC ns) kn → KidsG R ts kt lts → PutS C B0 (szN x) ts → okB C x = true → ∃ v st', Ev Tryd.prog envD 52 [.agg [kn, kt], .agg cs] st v st' ∧ NewN R st st' (putN cntN x ns ts) v ∧ Qt st st' := by
 refine nd_rec (M := fun x => NodeP C x) (fun o s z a l ih => ?_) x
 intro R ns ts kn kt lts B0 st cs hf hR hr hN hTs hP hok
 have hr0 := hr
 obtain ⟨kk, ls, rfl, hK, hb⟩ := hr.open5
 have hln := hK.ln
 have hbn := hK.bnd
 obtain ⟨hnl, hz0, hzC, hone, hokk, hvar⟩ := okB_open hok
 have hsz := hP.sz
 have hb1 := hP.b
 have hmul : szN (.mk o s z a l) * 2 ≤ szN (.mk o s z a l) * (B0 + 1) := Nat.mul_le_mul_left _ (by omega)
 have hll : l.length + 1 ≤ szN (.mk o s z a l) := by rw [szN]; have := szL_ge l; omega
 have hB5 : B0 + 1 ≤ 500000 := Nat.le_trans (Nat.le_mul_of_pos_left _ (szN_pos (.mk o s z a l))) hsz
 refine J5 rfl Tryd.func52 rfl Tryd.ntmps52 rfl (by decide) (by simp) fun T hT => ?_
 have K : KnT [(0, _), (1, _)] T := (.cons (hT 0) (.cons (hT 1) .nil))
 have M := Mem.start hf
 refine Qh <| Qa ?_
 refine Ub K M rfl (Qf hN.cell (Qf hTs.cell Q7)) (by decide) fun c2 _ _ K M => ?_
 refine Ub K M rfl (Qf rfl (Qf rfl (Qf rfl (Qf rfl (Qf hK.cell Q7))))) (by decide) fun c3 _ _ K M => ?_
 refine Jy K M Jd (by decide) fun c4 _ _ K M => ?_
 refine Qd ?_
 show W _ _ _ _ _ _ _
 refine Qh <| Qa <| o1 K (Qg rfl (M.load (k := 2) rfl (Ql Ug rfl))) rfl fun _ K => o1 K (Qe Ja rfl) rfl fun _ K => o1 K (Qg rfl (M.load (k := 1) rfl (Qk Qx rfl))) rfl fun _ K => ?_
 obtain ⟨v14, st14, ev14, ⟨o14, s14, z14, a14, kk14, bb14, rfl, ⟨nk14, hc14⟩, hT14⟩, q14⟩ := pTerm_ev M.fresh (M.inH hR) (RdR.mem M hN (by simp)) hTs s
 refine o1 K (Qn rfl ev14) rfl fun _ K => ?_
 replace M := M.quiet q14
 refine o1 K (Qc rfl) rfl fun _ K => o1 K (Jx rfl rfl) rfl fun _ K => o1 K (Jx rfl rfl) rfl fun _ K => ?_
 refine Jy K M Jd (by decide) fun c5 _ _ K M => ?_
 refine Qz (k := 0) K M rfl rfl rfl Q6 rfl (Qf rfl (Qf rfl (Qf rfl (Qf rfl (Qf (slLen_cell hc14) Q7))))) rfl fun _ M => ?_
 refine o1 K (Qb rfl) rfl fun _ K => Qd ?_
 show W _ _ _ _ _ _ _
 refine w_cut (J := fun T st9 => KnT [(2, .ptr c2 0 0), (3, .ptr c3 0 0), (4, .ptr c4 0 0)] T ∧ Mem st.h.get st.n [] st9 [(c5, 0, [.str o14, .str s14, .int .i64 z14, .int .i64 a14, kk14]), (c4, 0, [.str [], .str [], .int .i64 0, .int .i64 0, .nils]), (c3, 0, [.str o, .str s, .int .i64 z, .int .i64 a, kk]), (c2, 0, [kn, kt])] ∧ ¬ (o = [118, 97, 114] ∧ (lookT ns ts s).isSome = true) ∧ ¬ (o = [105, 115] ∧ (lookT ns ts s).any (fun t => decide (t.op = [118, 97, 114])) = true) ∧ ¬ (o = [101, 120] ∨ o = [97, 108, 108])) ?_ (fun T st9 hJ => ?_)
 ·refine Q5 <| Qh <| Qa <| o1 K (Qe Je rfl) rfl fun _ K => o1 K (Qg rfl (M.load (k := 2) rfl (Qk Qx rfl))) rfl fun _ K => o1 K (Jo (b := [118, 97, 114]) rfl rfl) rfl fun _ K => ?_
  refine oB K (Qc rfl) rfl fun b21 _ e21 K => ?_
  cases b21
  ·replace e21 := of_decide_eq_false e21
   refine gn K rfl rfl rfl rfl fun _ K => o1 K (Qj rfl rfl rfl) rfl fun _ K => o1 K (Qb rfl) rfl fun _ K => Qd ?_
   show W _ _ _ _ _ _ _
   refine Qr (t := false) (K.opd rfl) (fun h => by cases h) (fun _ => ?_)
   refine Qh <| Qa <| o1 K (Qe Je rfl) rfl fun _ K => o1 K (Qg rfl (M.load (k := 2) rfl (Qk Qx rfl))) rfl fun _ K => o1 K (Jo (b := [105, 115]) rfl rfl) rfl fun _ K => ?_
   refine oB K (Qc rfl) rfl fun b34 _ e34 K => ?_
   cases b34
   ·replace e34 := of_decide_eq_false e34
    refine gn K rfl rfl rfl rfl fun _ K => o1 K (Qj rfl rfl rfl) rfl fun _ K => o1 K (Qc rfl) rfl fun _ K => gn K rfl rfl rfl rfl fun _ K => gn K rfl rfl rfl rfl fun _ K => gn K rfl rfl rfl rfl fun _ K => o1 K (Qj rfl rfl rfl) rfl fun _ K => o1 K (Qb rfl) rfl fun _ K => Qd ?_
    show W _ _ _ _ _ _ _
    refine Qr (t := false) (K.opd rfl) (fun h => by cases h) (fun _ => ?_)
    refine Qh <| Qa <| o1 K (Qg rfl (M.load (k := 2) rfl (Ql Qi rfl))) rfl fun _ K => ?_
    obtain ⟨v48, st48, ev48, rfl, q48⟩ := binds_ev M.fresh (hr0.toN (M.inH hR))
    refine o1 K (Qn rfl ev48) rfl fun _ K => ?_
    replace M := M.quiet q48
    refine o1 K (Qb rfl) rfl fun _ K => Qd ?_
    show W _ _ _ _ _ _ _
    refine Qr (K.opd rfl) (fun h46 => ?_) (fun h46 => ?_)
    ·have hb46 := h46
     refine Qh <| Qa <| o1 K (Qg rfl (M.load (k := 3) rfl (Ql Ug rfl))) rfl fun _ K => o1 K (Qg rfl (M.load (k := 2) rfl (Ql Qi rfl))) rfl fun _ K => ?_
     obtain ⟨v51, st51, ev51, ⟨on51, sn51, zn51, an51, ln51, kkn51, A51, en51, rfl, hS51, hN51⟩, q51⟩ := pBound_ev M.fresh (M.inH hR) (RdR.mem M hN (by simp)) hTs hr0 hP hok (by simp_all) ih
     refine o1 K (Qn rfl ev51) rfl fun _ K => ?_
     replace M := M.callSeg q51 hS51
     replace M := Mem.cast (M' := ((c5, 0, [.str o14, .str s14, .int .i64 z14, .int .i64 a14, kk14]) :: (c4, 0, [.str [], .str [], .int .i64 0, .int .i64 0, .nils]) :: (c3, 0, [.str o, .str s, .int .i64 z, .int .i64 a, kk]) :: (c2, 0, [kn, kt]) :: (A51 ++ []))) M (by first | (simp only [List.append_assoc, List.cons_append, List.nil_append, List.append_nil, List.set_cons_zero, List.set_cons_succ]; done) | (simp only [List.append_assoc, List.cons_append, List.nil_append, List.append_nil, List.set_cons_zero, List.set_cons_succ]; rfl))
     refine Qz (k := 1) K M rfl rfl rfl Q6 rfl (Qf rfl (Qf rfl (Qf rfl (Qf rfl (Qf hN51.cellK Q7))))) rfl fun _ M => ?_
     refine Qd ?_
     show W _ _ _ _ _ _ _
     refine Qs ?_
     refine ⟨.inr rfl, _, (Qm (Js K rfl (M.load (k := 1) rfl (Ql Qi rfl)))), ?_⟩
     exact ⟨⟨_, _, _, _, _, _, A51, en51, rfl, M.seg (.cons _ (.cons _ (.cons _ (.cons _ (List.sublist_append_left A51 []))))), hN51⟩, M.qt⟩
    have hb46 := h46
    refine Q3 ?_
    have hnv : ¬ (o = [118, 97, 114] ∧ (lookT ns ts s).isSome = true) := by
     rintro ⟨h1, h2⟩
     rcases hT14 with ⟨h3, _⟩ | ⟨_, h3⟩
     ·simp_all
     ·rw [h3] at h2; cases h2
    have hni : ¬ (o = [105, 115] ∧ (lookT ns ts s).any (fun t => decide (t.op = [118, 97, 114])) = true) := by
     rintro ⟨h1, h2⟩
     rcases hT14 with ⟨h3, l3, h4, _⟩ | ⟨_, h3⟩
     ·rw [h4] at h2; have h2 : decide (o14 = [118, 97, 114]) = true := h2; simp_all
     ·rw [h3] at h2; cases h2
    have hnb : ¬ (o = [101, 120] ∨ o = [97, 108, 108]) := by intro h; simp_all
    exact ⟨(.cons (K _ _ rfl) (.cons (K _ _ rfl) (.cons (K _ _ rfl) .nil))), M.less (.refl _), hnv, hni, hnb⟩
   replace e34 := of_decide_eq_true e34
   refine og K rfl rfl (Qc rfl) rfl fun _ K => o1 K (Qj rfl rfl rfl) rfl fun _ K => ?_
   refine oB K (Qc rfl) rfl fun b37 _ e37 K => ?_
   cases b37
   ·refine gn K rfl rfl rfl rfl fun _ K => gn K rfl rfl rfl rfl fun _ K => gn K rfl rfl rfl rfl fun _ K => o1 K (Qj rfl rfl rfl) rfl fun _ K => o1 K (Qb rfl) rfl fun _ K => Qd ?_
    show W _ _ _ _ _ _ _
    refine Qr (t := false) (K.opd rfl) (fun h => by cases h) (fun _ => ?_)
    refine Qh <| Qa <| o1 K (Qg rfl (M.load (k := 2) rfl (Ql Qi rfl))) rfl fun _ K => ?_
    obtain ⟨v48, st48, ev48, rfl, q48⟩ := binds_ev M.fresh (hr0.toN (M.inH hR))
    refine o1 K (Qn rfl ev48) rfl fun _ K => ?_
    replace M := M.quiet q48
    refine o1 K (Qb rfl) rfl fun _ K => Qd ?_
    show W _ _ _ _ _ _ _
    refine Qr (K.opd rfl) (fun h46 => ?_) (fun h46 => ?_)
    ·have hb46 := h46
     refine Qh <| Qa <| o1 K (Qg rfl (M.load (k := 3) rfl (Ql Ug rfl))) rfl fun _ K => o1 K (Qg rfl (M.load (k := 2) rfl (Ql Qi rfl))) rfl fun _ K => ?_
     obtain ⟨v51, st51, ev51, ⟨on51, sn51, zn51, an51, ln51, kkn51, A51, en51, rfl, hS51, hN51⟩, q51⟩ := pBound_ev M.fresh (M.inH hR) (RdR.mem M hN (by simp)) hTs hr0 hP hok (by simp_all) ih
     refine o1 K (Qn rfl ev51) rfl fun _ K => ?_
     replace M := M.callSeg q51 hS51
     replace M := Mem.cast (M' := ((c5, 0, [.str o14, .str s14, .int .i64 z14, .int .i64 a14, kk14]) :: (c4, 0, [.str [], .str [], .int .i64 0, .int .i64 0, .nils]) :: (c3, 0, [.str o, .str s, .int .i64 z, .int .i64 a, kk]) :: (c2, 0, [kn, kt]) :: (A51 ++ []))) M (by first | (simp only [List.append_assoc, List.cons_append, List.nil_append, List.append_nil, List.set_cons_zero, List.set_cons_succ]; done) | (simp only [List.append_assoc, List.cons_append, List.nil_append, List.append_nil, List.set_cons_zero, List.set_cons_succ]; rfl))
     refine Qz (k := 1) K M rfl rfl rfl Q6 rfl (Qf rfl (Qf rfl (Qf rfl (Qf rfl (Qf hN51.cellK Q7))))) rfl fun _ M => ?_
     refine Qd ?_
     show W _ _ _ _ _ _ _
     refine Qs ?_
     refine ⟨.inr rfl, _, (Qm (Js K rfl (M.load (k := 1) rfl (Ql Qi rfl)))), ?_⟩
     exact ⟨⟨_, _, _, _, _, _, A51, en51, rfl, M.seg (.cons _ (.cons _ (.cons _ (.cons _ (List.sublist_append_left A51 []))))), hN51⟩, M.qt⟩
    have hb46 := h46
    refine Q3 ?_
    have hnv : ¬ (o = [118, 97, 114] ∧ (lookT ns ts s).isSome = true) := by
     rintro ⟨h1, h2⟩
     rcases hT14 with ⟨h3, _⟩ | ⟨_, h3⟩
     ·simp_all
     ·rw [h3] at h2; cases h2
    have hni : ¬ (o = [105, 115] ∧ (lookT ns ts s).any (fun t => decide (t.op = [118, 97, 114])) = true) := by
     rintro ⟨h1, h2⟩
     rcases hT14 with ⟨h3, l3, h4, _⟩ | ⟨_, h3⟩
     ·rw [h4] at h2; have h2 : decide (o14 = [118, 97, 114]) = true := h2; simp_all
     ·rw [h3] at h2; cases h2
    have hnb : ¬ (o = [101, 120] ∨ o = [97, 108, 108]) := by intro h; simp_all
    exact ⟨(.cons (K _ _ rfl) (.cons (K _ _ rfl) (.cons (K _ _ rfl) .nil))), M.less (.refl _), hnv, hni, hnb⟩
   refine og K rfl rfl (Qe Je rfl) rfl fun _ K => og K rfl rfl (Qg rfl (M.load (k := 0) rfl (Qk Qx rfl))) rfl fun _ K => og K rfl rfl (Jo (b := [118, 97, 114]) rfl rfl) rfl fun _ K => o1 K (Qj rfl rfl rfl) rfl fun _ K => o1 K (Qb rfl) rfl fun _ K => Qd ?_
   show W _ _ _ _ _ _ _
   refine Qr (K.opd rfl) (fun h30 => ?_) (fun h30 => ?_)
   ·have hb30 := h30
    replace h30 := of_decide_eq_true h30
    refine Qh <| Qa <| o1 K (Qe Ja rfl) rfl fun _ K => o1 K (Qg rfl (M.load (k := 0) rfl (Qk Qx rfl))) rfl fun _ K => o1 K (Qe Ja rfl) rfl fun _ K => ?_
    refine Qz (k := 2) K M rfl rfl rfl sz_string rfl rfl rfl fun _ M => ?_
    refine Qd ?_
    show W _ _ _ _ _ _ _
    refine Qh <| Qa <| o1 K (Qg rfl (M.load (k := 2) rfl (Ql Qi rfl))) rfl fun _ K => ?_
    refine Qz (k := 1) K M rfl rfl rfl Q6 rfl (Qf rfl (Qf rfl (Qf rfl (Qf rfl (Qf hK.cell Q7))))) rfl fun _ M => ?_
    refine Qd ?_
    show W _ _ _ _ _ _ _
    refine Qs ?_
    refine ⟨.inr rfl, _, (Qm (Js K rfl (M.load (k := 1) rfl (Ql Qi rfl)))), ?_⟩
    refine ⟨?_, M.qt⟩
    obtain ⟨l14, hL14, hG14⟩ : ∃ l, lookT ns ts s = some (.mk o14 s14 z14 a14 l) ∧ RdG R (.mk o14 s14 z14 a14 l) [.str o14, .str s14, .int .i64 z14, .int .i64 a14, kk14] := by
     rcases hT14 with ⟨_, l, h1, h2⟩ | ⟨h, _⟩
     ·exact ⟨l, h1, h2⟩
     ·exfalso; simp_all
    have hoi : o = [105, 115] := by assumption
    have hb14 := hG14.open5
    obtain ⟨_, _, _, _, _, hb14⟩ := hb14
    have hno : ¬ (o = [118, 97, 114] ∧ (lookT ns ts s).isSome = true) := by rw [hoi]; simp
    rw [putN, if_neg hno, if_pos ⟨hoi, by rw [hL14]; show decide (o14 = _) = true; simp_all⟩, hL14]
    exact NewN.same M (hr0.again hb14)
   have hb30 := h30
   replace h30 := of_decide_eq_false h30
   refine Qh <| Qa <| o1 K (Qg rfl (M.load (k := 2) rfl (Ql Qi rfl))) rfl fun _ K => ?_
   obtain ⟨v48, st48, ev48, rfl, q48⟩ := binds_ev M.fresh (hr0.toN (M.inH hR))
   refine o1 K (Qn rfl ev48) rfl fun _ K => ?_
   replace M := M.quiet q48
   refine o1 K (Qb rfl) rfl fun _ K => Qd ?_
   show W _ _ _ _ _ _ _
   refine Qr (K.opd rfl) (fun h46 => ?_) (fun h46 => ?_)
   ·have hb46 := h46
    refine Qh <| Qa <| o1 K (Qg rfl (M.load (k := 3) rfl (Ql Ug rfl))) rfl fun _ K => o1 K (Qg rfl (M.load (k := 2) rfl (Ql Qi rfl))) rfl fun _ K => ?_
    obtain ⟨v51, st51, ev51, ⟨on51, sn51, zn51, an51, ln51, kkn51, A51, en51, rfl, hS51, hN51⟩, q51⟩ := pBound_ev M.fresh (M.inH hR) (RdR.mem M hN (by simp)) hTs hr0 hP hok (by simp_all) ih
    refine o1 K (Qn rfl ev51) rfl fun _ K => ?_
    replace M := M.callSeg q51 hS51
    replace M := Mem.cast (M' := ((c5, 0, [.str o14, .str s14, .int .i64 z14, .int .i64 a14, kk14]) :: (c4, 0, [.str [], .str [], .int .i64 0, .int .i64 0, .nils]) :: (c3, 0, [.str o, .str s, .int .i64 z, .int .i64 a, kk]) :: (c2, 0, [kn, kt]) :: (A51 ++ []))) M (by first | (simp only [List.append_assoc, List.cons_append, List.nil_append, List.append_nil, List.set_cons_zero, List.set_cons_succ]; done) | (simp only [List.append_assoc, List.cons_append, List.nil_append, List.append_nil, List.set_cons_zero, List.set_cons_succ]; rfl))
    refine Qz (k := 1) K M rfl rfl rfl Q6 rfl (Qf rfl (Qf rfl (Qf rfl (Qf rfl (Qf hN51.cellK Q7))))) rfl fun _ M => ?_
    refine Qd ?_
    show W _ _ _ _ _ _ _
    refine Qs ?_
    refine ⟨.inr rfl, _, (Qm (Js K rfl (M.load (k := 1) rfl (Ql Qi rfl)))), ?_⟩
    exact ⟨⟨_, _, _, _, _, _, A51, en51, rfl, M.seg (.cons _ (.cons _ (.cons _ (.cons _ (List.sublist_append_left A51 []))))), hN51⟩, M.qt⟩
   have hb46 := h46
   refine Q3 ?_
   have hnv : ¬ (o = [118, 97, 114] ∧ (lookT ns ts s).isSome = true) := by
    rintro ⟨h1, h2⟩
    rcases hT14 with ⟨h3, _⟩ | ⟨_, h3⟩
    ·simp_all
    ·rw [h3] at h2; cases h2
   have hni : ¬ (o = [105, 115] ∧ (lookT ns ts s).any (fun t => decide (t.op = [118, 97, 114])) = true) := by
    rintro ⟨h1, h2⟩
    rcases hT14 with ⟨h3, l3, h4, _⟩ | ⟨_, h3⟩
    ·rw [h4] at h2; have h2 : decide (o14 = [118, 97, 114]) = true := h2; simp_all
    ·rw [h3] at h2; cases h2
   have hnb : ¬ (o = [101, 120] ∨ o = [97, 108, 108]) := by intro h; simp_all
   exact ⟨(.cons (K _ _ rfl) (.cons (K _ _ rfl) (.cons (K _ _ rfl) .nil))), M.less (.refl _), hnv, hni, hnb⟩
  replace e21 := of_decide_eq_true e21
  refine og K rfl rfl (Qc rfl) rfl fun _ K => o1 K (Qj rfl rfl rfl) rfl fun _ K => o1 K (Qb rfl) rfl fun _ K => Qd ?_
  show W _ _ _ _ _ _ _
  refine Qr (K.opd rfl) (fun h17 => ?_) (fun h17 => ?_)
  ·have hb17 := h17
   refine Qh <| Qa <| o1 K (Qg rfl (M.load (k := 0) rfl (Ql Qi rfl))) rfl fun _ K => ?_
   obtain ⟨l14, hL14, hG14⟩ : ∃ l, lookT ns ts s = some (.mk o14 s14 z14 a14 l) ∧ RdG R (.mk o14 s14 z14 a14 l) [.str o14, .str s14, .int .i64 z14, .int .i64 a14, kk14] := by
    rcases hT14 with ⟨_, l, h1, h2⟩ | ⟨h, _⟩
    ·exact ⟨l, h1, h2⟩
    ·exfalso; simp_all
   obtain ⟨v25, st25, ev25, ⟨on25, sn25, zn25, an25, ln25, kkn25, A25, en25, rfl, hS25, hN25⟩, q25⟩ := copied_ev R _ _ _ M.fresh (M.inH hR) hG14 (by have := (hP.t _ (lookT_mem hL14)).1; omega)
   refine o1 K (Qn rfl ev25) rfl fun _ K => ?_
   replace M := M.callSeg q25 hS25
   replace M := Mem.cast (M' := ((c5, 0, [.str o14, .str s14, .int .i64 z14, .int .i64 a14, kk14]) :: (c4, 0, [.str [], .str [], .int .i64 0, .int .i64 0, .nils]) :: (c3, 0, [.str o, .str s, .int .i64 z, .int .i64 a, kk]) :: (c2, 0, [kn, kt]) :: (A25 ++ []))) M (by first | (simp only [List.append_assoc, List.cons_append, List.nil_append, List.append_nil, List.set_cons_zero, List.set_cons_succ]; done) | (simp only [List.append_assoc, List.cons_append, List.nil_append, List.append_nil, List.set_cons_zero, List.set_cons_succ]; rfl))
   refine Qz (k := 0) K M rfl rfl rfl Q6 rfl (Qf rfl (Qf rfl (Qf rfl (Qf rfl (Qf hN25.cellK Q7))))) rfl fun _ M => ?_
   refine Qd ?_
   show W _ _ _ _ _ _ _
   refine Qh <| Qa <| o1 K (Qe fo_api_Node_3 rfl) rfl fun _ K => o1 K (Qg rfl (M.load (k := 2) rfl (Qk Ju rfl))) rfl fun _ K => o1 K (Qe fo_api_Node_3 rfl) rfl fun _ K => ?_
   refine Qz (k := 0) K M rfl rfl rfl sz_int rfl rfl rfl fun _ M => ?_
   refine Qd ?_
   show W _ _ _ _ _ _ _
   refine Qh <| Qa <| o1 K (Qg rfl (M.load (k := 0) rfl (Ql Qi rfl))) rfl fun _ K => ?_
   refine Qz (k := 1) K M rfl rfl rfl Q6 rfl (Qf rfl (Qf rfl (Qf rfl (Qf rfl (Qf hN25.cellK Q7))))) rfl fun _ M => ?_
   refine Qd ?_
   show W _ _ _ _ _ _ _
   refine Qs ?_
   refine ⟨.inr rfl, _, (Qm (Js K rfl (M.load (k := 1) rfl (Ql Qi rfl)))), ?_⟩
   refine ⟨?_, M.qt⟩
   have hov : o = [118, 97, 114] := by assumption
   rw [putN, if_pos ⟨hov, by rw [hL14]; rfl⟩, hL14]
   show NewN R st _ (Nd.setAt a (.mk o14 s14 z14 a14 l14)) _
   rw [en25] at hN25 ⊢
   exact ⟨on25, sn25, zn25, a, ln25, kkn25, A25, rfl, rfl, M.seg (.cons _ (.cons _ (.cons _ (.cons _ (List.sublist_append_left A25 []))))), hN25.setAt (o' := []) (s' := []) (z' := 0) (l := [])⟩
  have hb17 := h17
  refine Qh <| Qa <| o1 K (Qe Je rfl) rfl fun _ K => o1 K (Qg rfl (M.load (k := 2) rfl (Qk Qx rfl))) rfl fun _ K => o1 K (Jo (b := [105, 115]) rfl rfl) rfl fun _ K => ?_
  refine oB K (Qc rfl) rfl fun b34 _ e34 K => ?_
  cases b34
  ·replace e34 := of_decide_eq_false e34
   refine gn K rfl rfl rfl rfl fun _ K => o1 K (Qj rfl rfl rfl) rfl fun _ K => o1 K (Qc rfl) rfl fun _ K => gn K rfl rfl rfl rfl fun _ K => gn K rfl rfl rfl rfl fun _ K => gn K rfl rfl rfl rfl fun _ K => o1 K (Qj rfl rfl rfl) rfl fun _ K => o1 K (Qb rfl) rfl fun _ K => Qd ?_
   show W _ _ _ _ _ _ _
   refine Qr (t := false) (K.opd rfl) (fun h => by cases h) (fun _ => ?_)
   refine Qh <| Qa <| o1 K (Qg rfl (M.load (k := 2) rfl (Ql Qi rfl))) rfl fun _ K => ?_
   obtain ⟨v48, st48, ev48, rfl, q48⟩ := binds_ev M.fresh (hr0.toN (M.inH hR))
   refine o1 K (Qn rfl ev48) rfl fun _ K => ?_
   replace M := M.quiet q48
   refine o1 K (Qb rfl) rfl fun _ K => Qd ?_
   show W _ _ _ _ _ _ _
   refine Qr (K.opd rfl) (fun h46 => ?_) (fun h46 => ?_)
   ·have hb46 := h46
    refine Qh <| Qa <| o1 K (Qg rfl (M.load (k := 3) rfl (Ql Ug rfl))) rfl fun _ K => o1 K (Qg rfl (M.load (k := 2) rfl (Ql Qi rfl))) rfl fun _ K => ?_
    obtain ⟨v51, st51, ev51, ⟨on51, sn51, zn51, an51, ln51, kkn51, A51, en51, rfl, hS51, hN51⟩, q51⟩ := pBound_ev M.fresh (M.inH hR) (RdR.mem M hN (by simp)) hTs hr0 hP hok (by simp_all) ih
    refine o1 K (Qn rfl ev51) rfl fun _ K => ?_
    replace M := M.callSeg q51 hS51
    replace M := Mem.cast (M' := ((c5, 0, [.str o14, .str s14, .int .i64 z14, .int .i64 a14, kk14]) :: (c4, 0, [.str [], .str [], .int .i64 0, .int .i64 0, .nils]) :: (c3, 0, [.str o, .str s, .int .i64 z, .int .i64 a, kk]) :: (c2, 0, [kn, kt]) :: (A51 ++ []))) M (by first | (simp only [List.append_assoc, List.cons_append, List.nil_append, List.append_nil, List.set_cons_zero, List.set_cons_succ]; done) | (simp only [List.append_assoc, List.cons_append, List.nil_append, List.append_nil, List.set_cons_zero, List.set_cons_succ]; rfl))
    refine Qz (k := 1) K M rfl rfl rfl Q6 rfl (Qf rfl (Qf rfl (Qf rfl (Qf rfl (Qf hN51.cellK Q7))))) rfl fun _ M => ?_
    refine Qd ?_
    show W _ _ _ _ _ _ _
    refine Qs ?_
    refine ⟨.inr rfl, _, (Qm (Js K rfl (M.load (k := 1) rfl (Ql Qi rfl)))), ?_⟩
    exact ⟨⟨_, _, _, _, _, _, A51, en51, rfl, M.seg (.cons _ (.cons _ (.cons _ (.cons _ (List.sublist_append_left A51 []))))), hN51⟩, M.qt⟩
   have hb46 := h46
   refine Q3 ?_
   have hnv : ¬ (o = [118, 97, 114] ∧ (lookT ns ts s).isSome = true) := by
    rintro ⟨h1, h2⟩
    rcases hT14 with ⟨h3, _⟩ | ⟨_, h3⟩
    ·simp_all
    ·rw [h3] at h2; cases h2
   have hni : ¬ (o = [105, 115] ∧ (lookT ns ts s).any (fun t => decide (t.op = [118, 97, 114])) = true) := by
    rintro ⟨h1, h2⟩
    rcases hT14 with ⟨h3, l3, h4, _⟩ | ⟨_, h3⟩
    ·rw [h4] at h2; have h2 : decide (o14 = [118, 97, 114]) = true := h2; simp_all
    ·rw [h3] at h2; cases h2
   have hnb : ¬ (o = [101, 120] ∨ o = [97, 108, 108]) := by intro h; simp_all
   exact ⟨(.cons (K _ _ rfl) (.cons (K _ _ rfl) (.cons (K _ _ rfl) .nil))), M.less (.refl _), hnv, hni, hnb⟩
  replace e34 := of_decide_eq_true e34
  refine og K rfl rfl (Qc rfl) rfl fun _ K => o1 K (Qj rfl rfl rfl) rfl fun _ K => ?_
  refine oB K (Qc rfl) rfl fun b37 _ e37 K => ?_
  cases b37
  ·refine gn K rfl rfl rfl rfl fun _ K => gn K rfl rfl rfl rfl fun _ K => gn K rfl rfl rfl rfl fun _ K => o1 K (Qj rfl rfl rfl) rfl fun _ K => o1 K (Qb rfl) rfl fun _ K => Qd ?_
   show W _ _ _ _ _ _ _
   refine Qr (t := false) (K.opd rfl) (fun h => by cases h) (fun _ => ?_)
   refine Qh <| Qa <| o1 K (Qg rfl (M.load (k := 2) rfl (Ql Qi rfl))) rfl fun _ K => ?_
   obtain ⟨v48, st48, ev48, rfl, q48⟩ := binds_ev M.fresh (hr0.toN (M.inH hR))
   refine o1 K (Qn rfl ev48) rfl fun _ K => ?_
   replace M := M.quiet q48
   refine o1 K (Qb rfl) rfl fun _ K => Qd ?_
   show W _ _ _ _ _ _ _
   refine Qr (K.opd rfl) (fun h46 => ?_) (fun h46 => ?_)
   ·have hb46 := h46
    refine Qh <| Qa <| o1 K (Qg rfl (M.load (k := 3) rfl (Ql Ug rfl))) rfl fun _ K => o1 K (Qg rfl (M.load (k := 2) rfl (Ql Qi rfl))) rfl fun _ K => ?_
    obtain ⟨v51, st51, ev51, ⟨on51, sn51, zn51, an51, ln51, kkn51, A51, en51, rfl, hS51, hN51⟩, q51⟩ := pBound_ev M.fresh (M.inH hR) (RdR.mem M hN (by simp)) hTs hr0 hP hok (by simp_all) ih
    refine o1 K (Qn rfl ev51) rfl fun _ K => ?_
    replace M := M.callSeg q51 hS51
    replace M := Mem.cast (M' := ((c5, 0, [.str o14, .str s14, .int .i64 z14, .int .i64 a14, kk14]) :: (c4, 0, [.str [], .str [], .int .i64 0, .int .i64 0, .nils]) :: (c3, 0, [.str o, .str s, .int .i64 z, .int .i64 a, kk]) :: (c2, 0, [kn, kt]) :: (A51 ++ []))) M (by first | (simp only [List.append_assoc, List.cons_append, List.nil_append, List.append_nil, List.set_cons_zero, List.set_cons_succ]; done) | (simp only [List.append_assoc, List.cons_append, List.nil_append, List.append_nil, List.set_cons_zero, List.set_cons_succ]; rfl))
    refine Qz (k := 1) K M rfl rfl rfl Q6 rfl (Qf rfl (Qf rfl (Qf rfl (Qf rfl (Qf hN51.cellK Q7))))) rfl fun _ M => ?_
    refine Qd ?_
    show W _ _ _ _ _ _ _
    refine Qs ?_
    refine ⟨.inr rfl, _, (Qm (Js K rfl (M.load (k := 1) rfl (Ql Qi rfl)))), ?_⟩
    exact ⟨⟨_, _, _, _, _, _, A51, en51, rfl, M.seg (.cons _ (.cons _ (.cons _ (.cons _ (List.sublist_append_left A51 []))))), hN51⟩, M.qt⟩
   have hb46 := h46
   refine Q3 ?_
   have hnv : ¬ (o = [118, 97, 114] ∧ (lookT ns ts s).isSome = true) := by
    rintro ⟨h1, h2⟩
    rcases hT14 with ⟨h3, _⟩ | ⟨_, h3⟩
    ·simp_all
    ·rw [h3] at h2; cases h2
   have hni : ¬ (o = [105, 115] ∧ (lookT ns ts s).any (fun t => decide (t.op = [118, 97, 114])) = true) := by
    rintro ⟨h1, h2⟩
    rcases hT14 with ⟨h3, l3, h4, _⟩ | ⟨_, h3⟩
    ·rw [h4] at h2; have h2 : decide (o14 = [118, 97, 114]) = true := h2; simp_all
    ·rw [h3] at h2; cases h2
   have hnb : ¬ (o = [101, 120] ∨ o = [97, 108, 108]) := by intro h; simp_all
   exact ⟨(.cons (K _ _ rfl) (.cons (K _ _ rfl) (.cons (K _ _ rfl) .nil))), M.less (.refl _), hnv, hni, hnb⟩
  refine og K rfl rfl (Qe Je rfl) rfl fun _ K => og K rfl rfl (Qg rfl (M.load (k := 0) rfl (Qk Qx rfl))) rfl fun _ K => og K rfl rfl (Jo (b := [118, 97, 114]) rfl rfl) rfl fun _ K => o1 K (Qj rfl rfl rfl) rfl fun _ K => o1 K (Qb rfl) rfl fun _ K => Qd ?_
  show W _ _ _ _ _ _ _
  refine Qr (K.opd rfl) (fun h30 => ?_) (fun h30 => ?_)
  ·have hb30 := h30
   replace h30 := of_decide_eq_true h30
   refine Qh <| Qa <| o1 K (Qe Ja rfl) rfl fun _ K => o1 K (Qg rfl (M.load (k := 0) rfl (Qk Qx rfl))) rfl fun _ K => o1 K (Qe Ja rfl) rfl fun _ K => ?_
   refine Qz (k := 2) K M rfl rfl rfl sz_string rfl rfl rfl fun _ M => ?_
   refine Qd ?_
   show W _ _ _ _ _ _ _
   refine Qh <| Qa <| o1 K (Qg rfl (M.load (k := 2) rfl (Ql Qi rfl))) rfl fun _ K => ?_
   refine Qz (k := 1) K M rfl rfl rfl Q6 rfl (Qf rfl (Qf rfl (Qf rfl (Qf rfl (Qf hK.cell Q7))))) rfl fun _ M => ?_
   refine Qd ?_
   show W _ _ _ _ _ _ _
   refine Qs ?_
   refine ⟨.inr rfl, _, (Qm (Js K rfl (M.load (k := 1) rfl (Ql Qi rfl)))), ?_⟩
   refine ⟨?_, M.qt⟩
   obtain ⟨l14, hL14, hG14⟩ : ∃ l, lookT ns ts s = some (.mk o14 s14 z14 a14 l) ∧ RdG R (.mk o14 s14 z14 a14 l) [.str o14, .str s14, .int .i64 z14, .int .i64 a14, kk14] := by
    rcases hT14 with ⟨_, l, h1, h2⟩ | ⟨h, _⟩
    ·exact ⟨l, h1, h2⟩
    ·exfalso; simp_all
   have hoi : o = [105, 115] := by assumption
   have hb14 := hG14.open5
   obtain ⟨_, _, _, _, _, hb14⟩ := hb14
   have hno : ¬ (o = [118, 97, 114] ∧ (lookT ns ts s).isSome = true) := by rw [hoi]; simp
   rw [putN, if_neg hno, if_pos ⟨hoi, by rw [hL14]; show decide (o14 = _) = true; simp_all⟩, hL14]
   exact NewN.same M (hr0.again hb14)
  have hb30 := h30
  replace h30 := of_decide_eq_false h30
  refine Qh <| Qa <| o1 K (Qg rfl (M.load (k := 2) rfl (Ql Qi rfl))) rfl fun _ K => ?_
  obtain ⟨v48, st48, ev48, rfl, q48⟩ := binds_ev M.fresh (hr0.toN (M.inH hR))
  refine o1 K (Qn rfl ev48) rfl fun _ K => ?_
  replace M := M.quiet q48
  refine o1 K (Qb rfl) rfl fun _ K => Qd ?_
  show W _ _ _ _ _ _ _
  refine Qr (K.opd rfl) (fun h46 => ?_) (fun h46 => ?_)
  ·have hb46 := h46
   refine Qh <| Qa <| o1 K (Qg rfl (M.load (k := 3) rfl (Ql Ug rfl))) rfl fun _ K => o1 K (Qg rfl (M.load (k := 2) rfl (Ql Qi rfl))) rfl fun _ K => ?_
   obtain ⟨v51, st51, ev51, ⟨on51, sn51, zn51, an51, ln51, kkn51, A51, en51, rfl, hS51, hN51⟩, q51⟩ := pBound_ev M.fresh (M.inH hR) (RdR.mem M hN (by simp)) hTs hr0 hP hok (by simp_all) ih
   refine o1 K (Qn rfl ev51) rfl fun _ K => ?_
   replace M := M.callSeg q51 hS51
   replace M := Mem.cast (M' := ((c5, 0, [.str o14, .str s14, .int .i64 z14, .int .i64 a14, kk14]) :: (c4, 0, [.str [], .str [], .int .i64 0, .int .i64 0, .nils]) :: (c3, 0, [.str o, .str s, .int .i64 z, .int .i64 a, kk]) :: (c2, 0, [kn, kt]) :: (A51 ++ []))) M (by first | (simp only [List.append_assoc, List.cons_append, List.nil_append, List.append_nil, List.set_cons_zero, List.set_cons_succ]; done) | (simp only [List.append_assoc, List.cons_append, List.nil_append, List.append_nil, List.set_cons_zero, List.set_cons_succ]; rfl))
   refine Qz (k := 1) K M rfl rfl rfl Q6 rfl (Qf rfl (Qf rfl (Qf rfl (Qf rfl (Qf hN51.cellK Q7))))) rfl fun _ M => ?_
   refine Qd ?_
   show W _ _ _ _ _ _ _
   refine Qs ?_
   refine ⟨.inr rfl, _, (Qm (Js K rfl (M.load (k := 1) rfl (Ql Qi rfl)))), ?_⟩
   exact ⟨⟨_, _, _, _, _, _, A51, en51, rfl, M.seg (.cons _ (.cons _ (.cons _ (.cons _ (List.sublist_append_left A51 []))))), hN51⟩, M.qt⟩
  have hb46 := h46
  refine Q3 ?_
  have hnv : ¬ (o = [118, 97, 114] ∧ (lookT ns ts s).isSome = true) := by
   rintro ⟨h1, h2⟩
   rcases hT14 with ⟨h3, _⟩ | ⟨_, h3⟩
   ·simp_all
   ·rw [h3] at h2; cases h2
  have hni : ¬ (o = [105, 115] ∧ (lookT ns ts s).any (fun t => decide (t.op = [118, 97, 114])) = true) := by
   rintro ⟨h1, h2⟩
   rcases hT14 with ⟨h3, l3, h4, _⟩ | ⟨_, h3⟩
   ·rw [h4] at h2; have h2 : decide (o14 = [118, 97, 114]) = true := h2; simp_all
   ·rw [h3] at h2; cases h2
  have hnb : ¬ (o = [101, 120] ∨ o = [97, 108, 108]) := by intro h; simp_all
  exact ⟨(.cons (K _ _ rfl) (.cons (K _ _ rfl) (.cons (K _ _ rfl) .nil))), M.less (.refl _), hnv, hni, hnb⟩
 obtain ⟨K, M, hnv, hni, hnb⟩ := hJ
 refine Qh <| Qa <| o1 K (Qb rfl) rfl fun _ K => Qd ?_
 show W _ _ _ _ _ _ _
 refine Qh <| Qh <| Qa <| o1 K (Qe Qw rfl) rfl fun _ K => o1 K (Qg rfl (M.load (k := 2) rfl (Qk Qu rfl))) rfl fun _ K => o1 K (Jn Q9 rfl rfl hK.len) rfl fun _ K => o1 K (Qc rfl) rfl fun _ K => Qd ?_
 show W _ _ _ _ _ _ _
 refine Q5 ?_
 refine w_loop (fun mm1 T st9 => ∃ (i : Nat) (ks : AV) (A : Rows0) (B : Rows0) (lsn : List (List AV)), mm1 = l.length - i ∧ KnT [(2, .ptr c2 0 0), (3, .ptr c3 0 0), (4, .ptr c4 0 0), (7, ks), (53, kk), (54, .int .i64 (((l.length : Nat) : Int))), (55, .int .i64 (((i : Nat) : Int)))] T ∧ Mem st.h.get st.n [] st9 ((c5, 0, [.str o14, .str s14, .int .i64 z14, .int .i64 a14, kk14]) :: (c4, 0, [.str [], .str [], .int .i64 0, .int .i64 0, .nils]) :: (c3, 0, [.str o, .str s, .int .i64 z, .int .i64 a, kk]) :: (c2, 0, [kn, kt]) :: (A ++ (B ++ []))) ∧ Acc st.n 5 A ks lsn ∧ i ≤ l.length ∧ lsn.length = i ∧ MapG (plusR R B) (fun k => putN cntN k ns ts) l lsn) (fun mm1 T st9 hI => ?_) _ _ _ ⟨0, .nils, [], [], [], rfl, (.cons (K _ _ rfl) (.cons (K _ _ rfl) (.cons (K _ _ rfl) (.cons (K _ _ rfl) (.cons (K _ _ rfl) (.cons (K _ _ rfl) (.cons (K _ _ rfl) .nil))))))), M.less (.refl _), .none, (Nat.zero_le _), rfl, .nil⟩
 obtain ⟨i, ks, A, B, lsn, rfl, K, M, hA, hi, hlen, hmap⟩ := hI
 refine Qh <| Qa <| o1 K (os_lss rfl rfl) rfl fun _ K => Qd ?_
 show W _ _ _ _ _ _ _
 refine Qh ?_
 refine Qr (K.opd rfl) (fun h56 => ?_) (fun h56 => ?_)
 ·have hb56 := h56
  replace h56 := of_decide_eq_true h56
  refine Q3 ?_
  show W _ _ _ _ _ _ _
  refine Qh <| Q5 <| Qh <| Qa ?_
  obtain ⟨⟨o57, s57, z57, a57, l57⟩, hi57⟩ : ∃ k, l[i]? = some k := ⟨_, List.getElem?_eq_getElem (by omega)⟩
  have hm57 := kids_mem hi57
  obtain ⟨_, hc57, hn57⟩ := hK.get hi57
  have hp57 := hn57
  obtain ⟨kk57, ls57, rfl, hK57, hb57⟩ := hp57.open5
  obtain ⟨x57, m57, f57, q57, _, la57, lo57, lp57⟩ := (hK.r (M.inH hR)).load (i := i) (cs := _) hc57
  refine o1 K (Q0 (j := i) Jf (congrArg some q57) rfl (by rw [hK.ln]; omega)) rfl fun _ K => o1 K (Qg rfl (la57 _ Qi)) rfl fun _ K => ?_
  refine Jy K M Jd (by decide) fun c9 _ _ K M => ?_
  refine Qz (k := 0) K M rfl rfl rfl Q6 rfl (Qf rfl (Qf rfl (Qf rfl (Qf rfl (Qf hK57.cell Q7))))) rfl fun _ M => ?_
  refine Qd ?_
  show W _ _ _ _ _ _ _
  refine Qa <| o1 K (Qc rfl) rfl fun _ K => o1 K (Qg rfl (M.load (k := 4) rfl (Ql Ug rfl))) rfl fun _ K => o1 K (Qg rfl (M.load (k := 0) rfl (Ql Qi rfl))) rfl fun _ K => ?_
  obtain ⟨v62, st62, ev62, ⟨on62, sn62, zn62, an62, ln62, kkn62, A62, en62, rfl, hS62, hN62⟩, q62⟩ := ih _ hm57 R ns ts kn kt lts B0 _ _ M.fresh (M.inH hR) hn57 (RdR.mem M hN (by simp)) hTs (hP.less (Nat.le_trans (szL_mem hm57) (Nat.le_of_lt (szL_lt o s z a l))) (fun t ht => .inl ht)) (hokk _ hm57)
  refine o1 K (Qn rfl ev62) rfl fun _ K => ?_
  replace M := M.callSeg q62 hS62
  replace M := Mem.cast (M' := ((c9, 0, [.str o57, .str s57, .int .i64 z57, .int .i64 a57, kk57]) :: (c5, 0, [.str o14, .str s14, .int .i64 z14, .int .i64 a14, kk14]) :: (c4, 0, [.str [], .str [], .int .i64 0, .int .i64 0, .nils]) :: (c3, 0, [.str o, .str s, .int .i64 z, .int .i64 a, kk]) :: (c2, 0, [kn, kt]) :: (A ++ ((B ++ A62) ++ [])))) M (by first | (simp only [List.append_assoc, List.cons_append, List.nil_append, List.append_nil, List.set_cons_zero, List.set_cons_succ]; done) | (simp only [List.append_assoc, List.cons_append, List.nil_append, List.append_nil, List.set_cons_zero, List.set_cons_succ]; rfl))
  refine wr_bs K M J4 Jd rfl rfl (Qf rfl (Qf rfl (Qf rfl (Qf rfl (Qf hN62.cellK Q7))))) rfl rfl fun c63 _ _ K M => ?_
  refine wr_acc1 (k2 := 0) (L := [(c63, 0, [.str on62, .str sn62, .int .i64 zn62, .int .i64 an62, kkn62]), (c9, 0, [.str o57, .str s57, .int .i64 z57, .int .i64 a57, kk57]), (c5, 0, [.str o14, .str s14, .int .i64 z14, .int .i64 a14, kk14]), (c4, 0, [.str [], .str [], .int .i64 0, .int .i64 0, .nils]), (c3, 0, [.str o, .str s, .int .i64 z, .int .i64 a, kk]), (c2, 0, [kn, kt])]) (A := A) (B := ((B ++ A62) ++ [])) K M hA J4 rfl rfl rfl rfl (by omega) rfl fun ks64 A64 _ _ K hA64 M => ?_
  refine o1 K (Qb rfl) rfl fun _ K => Qd ?_
  show W _ _ _ _ _ _ _
  refine Qa <| o1 K (Jm rfl rfl (by omega) (by omega)) rfl fun _ K => o1 K (Qc rfl) rfl fun _ K => Qd ?_
  exact ⟨_, (by omega), i + 1, ks64, A64, B ++ A62, (lsn ++ [[.str on62, .str sn62, .int .i64 zn62, .int .i64 an62, kkn62]]), rfl, (.cons (K _ _ rfl) (.cons (K _ _ rfl) (.cons (K _ _ rfl) (.cons (K _ _ rfl) (.cons (K _ _ rfl) (.cons (K _ _ rfl) (.cons (K _ _ rfl) .nil))))))), M.less (.cons _ (.cons _ (.refl _))), hA64, (by omega), (by rw [List.length_append]; simp; omega), (hmap.snoc hlen hi57 hN62)⟩
 have hb56 := h56
 replace h56 := of_decide_eq_false h56
 refine Uk ?_
 show W _ _ _ _ _ _ _
 refine Qh <| Qa <| o1 K (Qc rfl) rfl fun _ K => o1 K (Qe Qw rfl) rfl fun _ K => ?_
 refine wr_store1 (k := 2) K M rfl rfl rfl sz_S_api_Node (hA.cell) rfl fun _ M => ?_
 refine Qd ?_
 show W _ _ _ _ _ _ _
 refine Qh <| Qa <| o1 K (Qg rfl (M.load (k := 2) rfl (Ql Qi rfl))) rfl fun _ K => ?_
 have hBm : ∀ x ∈ A ++ B, x ∈ ((c5, 0, [.str o14, .str s14, .int .i64 z14, .int .i64 a14, kk14]) :: (c4, 0, [.str [], .str [], .int .i64 0, .int .i64 0, .nils]) :: (c3, 0, [.str o, .str s, .int .i64 z, .int .i64 a, ks]) :: (c2, 0, [kn, kt]) :: (A ++ (B ++ []))) := by intro x hx; rcases List.mem_append.1 hx with h | h <;> simp [h]
 have hin := M.inHB hR hBm
 have hKm : KidsG (plusR R (A ++ B)) (l.map (fun k => putN cntN k ns ts)) ks lsn := (hmap.kids (by omega) hA).mono (fun c m x h => by rcases h with (h | h) | h; exact .inl h; exact .inr (List.mem_append_right _ h); exact .inr (List.mem_append_left _ h))
 have hrj := hKm.node (op := o) (name := s) (n := z) (at_ := a) hb
 have hC0 := hP.c0
 have hC1 := hP.c1
 obtain ⟨v69, st69, ev69, ⟨oj, sj, zj, aj, lj, kkj, hjn, rfl, hJ⟩, q69⟩ := joinG_ev M.fresh hin hrj (by omega) (fun k hk => by rw [List.getElem?_map] at hk; obtain ⟨k0, hk0, rfl⟩ := Option.map_eq_some_iff.1 hk; have := put_num (ns := ns) (hokk k0 (List.mem_of_getElem? hk0)) hP.c0 (fun t ht => (hP.t t ht).2); omega)
 refine o1 K (Qn rfl ev69) rfl fun _ K => ?_
 replace M := M.quiet q69
 refine Qz (k := 1) K M rfl rfl rfl Q6 rfl (Qf rfl (Qf rfl (Qf rfl (Qf rfl (Qf hJ.cell Q7))))) rfl fun _ M => ?_
 refine Qd ?_
 show W _ _ _ _ _ _ _
 refine Qs ?_
 refine ⟨.inr rfl, _, (Qm (Js K rfl (M.load (k := 1) rfl (Ql Qi rfl)))), ?_⟩
 refine ⟨?_, M.qt⟩
 rw [putN, if_neg hnv, if_neg hni, if_neg hnb, putL_map, hjn]
 exact ⟨oj, sj, zj, aj, lj, kkj, A ++ B, rfl, rfl, M.seg (.cons _ (.cons _ (.cons _ (.cons _ (List.Sublist.trans (List.sublist_append_left (A ++ B) []) (by rw [List.append_assoc]; exact .refl _)))))), hJ⟩

theorem fPut_ev {R : Rws} {ns : List (List Nat)} {ts : List Nd} {kn kt : AV} {lts : List (List AV)} {st : St} (hf : Fresh st) (hR : inH R st.h.get) (hN : RdR st.h.get [] 1 (txC ns) kn) (hTs : KidsG R ts kt lts) {o s : List Nat} {z a : Int} {l : List Nd} {cs : List AV} (hr : RdG R (.mk o s z a l) cs) {C : Int} {B0 : Nat} (hP : PutS C B0 (szN (.mk o s z a l)) ts) (hok : okB C (.mk o s z a l) = true) : ∃ v st', Ev Tryd.prog envD 28 [.agg cs, kn, kt] st v st' ∧ NewN R st st' (putN cntN (.mk o s z a l) ns ts) v ∧ Qt st st' := by
 have hr0 := hr
 obtain ⟨kk, ls, rfl, hK, hb⟩ := hr.open5
 have hln := hK.ln
 have hbn := hK.bnd
 refine J5 rfl Tryd.func28 rfl Tryd.ntmps28 rfl (by decide) (by simp) fun T hT => ?_
 have K : KnT [(0, _), (1, _), (2, _)] T := (.cons (hT 0) (.cons (hT 1) (.cons (hT 2) .nil)))
 have M := Mem.start hf
 refine Qh <| Qa ?_
 refine Ub K M rfl (Qf rfl (Qf rfl (Qf rfl (Qf rfl (Qf hK.cell Q7))))) (by decide) fun c3 _ _ K M => ?_
 refine Jy K M Jd (by decide) fun c6 _ _ K M => ?_
 refine Qd ?_
 show W _ _ _ _ _ _ _
 refine Qh <| Qa <| o1 K (Qc rfl) rfl fun _ K => o1 K (Qc rfl) rfl fun _ K => o1 K (os_build st_free_put rfl ((fillA_one rfl hN.cell rfl).trans ((fillA_one rfl hTs.cell rfl).trans rfl))) rfl fun _ K => o1 K (Qg rfl (M.load (k := 1) rfl (Ql Qi rfl))) rfl fun _ K => ?_
 obtain ⟨v11, st11, ev11, ⟨on11, sn11, zn11, an11, ln11, kkn11, A11, en11, rfl, hS11, hN11⟩, q11⟩ := pNode_ev C _ R ns ts kn kt lts B0 _ _ M.fresh (M.inH hR) hr0 (RdR.mem M hN (by simp)) hTs hP hok
 refine o1 K (Qn rfl ev11) rfl fun _ K => ?_
 replace M := M.callSeg q11 hS11
 replace M := Mem.cast (M' := ((c6, 0, [.str [], .str [], .int .i64 0, .int .i64 0, .nils]) :: (c3, 0, [.str o, .str s, .int .i64 z, .int .i64 a, kk]) :: (A11 ++ []))) M (by first | (simp only [List.append_assoc, List.cons_append, List.nil_append, List.append_nil, List.set_cons_zero, List.set_cons_succ]; done) | (simp only [List.append_assoc, List.cons_append, List.nil_append, List.append_nil, List.set_cons_zero, List.set_cons_succ]; rfl))
 refine Qz (k := 0) K M rfl rfl rfl Q6 rfl (Qf rfl (Qf rfl (Qf rfl (Qf rfl (Qf hN11.cellK Q7))))) rfl fun _ M => ?_
 refine Qd ?_
 show W _ _ _ _ _ _ _
 refine Qs ?_
 refine ⟨.inr rfl, _, (Qm (Js K rfl (M.load (k := 0) rfl (Ql Qi rfl)))), ?_⟩
 exact ⟨⟨_, _, _, _, _, _, A11, en11, rfl, M.seg (.cons _ (.cons _ (List.sublist_append_left A11 []))), hN11⟩, M.qt⟩
end Go.Proofs.YtmjnbdkjekdkgaaDoor
