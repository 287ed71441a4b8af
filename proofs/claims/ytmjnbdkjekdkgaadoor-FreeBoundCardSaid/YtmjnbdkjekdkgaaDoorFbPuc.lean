/-
  free.Put: what is put within what binds a name.
-/
import Derived.Test.YtmjnbdkjekdkgaaDoorFbPub
namespace Go.Proofs.YtmjnbdkjekdkgaaDoor
open Go Go.RowKit
set_option linter.unusedVariables false
set_option linter.unusedSimpArgs false
set_option linter.unnecessarySimpa false
set_option maxRecDepth 100000
set_option maxHeartbeats 1000000

/-- What is asked of terms, and of sizes. -/
structure PutS (C : Int) (B : Nat) (m : Nat) (ts : List Nd) : Prop where
  t : ∀ t ∈ ts, szN t ≤ B ∧ 0 ≤ t.num' ∧ t.num' ≤ C
  b : 1 ≤ B
  sz : m * (B + 1) ≤ 500000
  c0 : 0 ≤ C
  c1 : C ≤ 50000
def NodeP (C : Int) (x : Nd) : Prop := ∀ (R : Rws) (ns : List (List Nat)) (ts : List Nd) (kn kt : AV) (lts : List (List AV)) (B : Nat) (st : St) (cs : List AV), Fresh st → inH R st.h.get → RdG R x cs → RdR st.h.get [] 1 (txC ns) kn → KidsG R ts kt lts → PutS C B (szN x) ts → okB C x = true →
 ∃ v st', Ev Tryd.prog envD 52 [.agg [kn, kt], .agg cs] st v st' ∧ NewN R st st' (putN cntN x ns ts) v ∧ Qt st st'
theorem PutS.less {C : Int} {B m m' : Nat} {ts ts' : List Nd} (h : PutS C B m ts) (hm : m' ≤ m) (ht : ∀ t ∈ ts', t ∈ ts ∨ szN t ≤ B ∧ 0 ≤ t.num' ∧ t.num' ≤ C) : PutS C B m' ts' :=
 ⟨fun t hx => (ht t hx).elim (h.t t) id, h.b, Nat.le_trans (Nat.mul_le_mul_right _ hm) h.sz, h.c0, h.c1⟩
theorem one_node {R : Rws} {A : Rows0} {k : Nd} {kc : List AV} {o s : List Nat} {z a : Int} {c : Nat} (hr : (c, 0, kc) ∈ A) (hk : RdG (plusR R A) k kc) (hb : Bytes o ∧ Bytes s) : RdG (plusR R A) (.mk o s z a [k]) [.str o, .str s, .int .i64 z, .int .i64 a, .sl c 0 0 1 5] := by
 refine .node (kids := [k]) (.inr hr) (by simp) (by rw [hk.len5]; simp) (fun i k' hi => ?_) hb
 match i, hi with
 | 0, hi =>
  injection hi with hi
  subst hi
  rw [Nat.zero_mul, Nat.zero_add, List.drop_zero, List.take_of_length_le (by rw [hk.len5]; exact Nat.le_refl _)]
  exact hk
theorem RdG.cellK {R : Rws} {k : Nd} {a b c d kk : AV} (r : RdG R k [a, b, c, d, kk]) : isCell kk = true := by cases k; exact r.cell
theorem any_take {α : Type} {p : α → Bool} {l : List α} {i : Nat} {x : α} (h : l[i]? = some x) : (l.take (i + 1)).any p = ((l.take i).any p || p x) := by
 rw [take_step h, List.any_append]; simp
theorem flat_take {α : Type} {f : α → List (List Nat)} {l : List α} {i : Nat} {x : α} (h : l[i]? = some x) : ((l.take (i + 1)).map f).flatten = ((l.take i).map f).flatten ++ f x := by
 rw [take_step h, List.map_append, List.flatten_append]; simp
theorem kid_one {l : List Nd} {k : Nd} (h : l[0]? = some k) (hl : l.length = 1) : l = [k] := by
 match l, hl with
 | [x], _ => injection h with h; subst h; rfl
theorem boundX_yes {cnt : List Nat → Int} {name : List Nat} {kids : List Nd} {ns : List (List Nat)} {ts : List Nd} {pl : List (List Nat × Nd)} (hp : onlyN ns ts name (freeK kids) = pl) (hc : pl.any (fun p => inB name (freeN p.2)) = true) :
  boundX cnt name kids ns ts = ⟨freshN cnt name (freeK kids ++ (pl.map fun p => freeN p.2).flatten), pl.map Prod.fst ++ [name], pl.map Prod.snd ++ [.mk [118, 97, 114] (freshN cnt name (freeK kids ++ (pl.map fun p => freeN p.2).flatten)) 0 0 []]⟩ := by
 unfold boundX
 simp only [hp, hc, if_true]
theorem boundX_no {cnt : List Nat → Int} {name : List Nat} {kids : List Nd} {ns : List (List Nat)} {ts : List Nd} {pl : List (List Nat × Nd)} (hp : onlyN ns ts name (freeK kids) = pl) (hc : pl.any (fun p => inB name (freeN p.2)) = false) :
  boundX cnt name kids ns ts = ⟨name, pl.map Prod.fst, pl.map Prod.snd⟩ := by
 unfold boundX
 simp only [hp, hc]
 rfl
theorem MapG.ofMap {α : Type} {R : Rws} {f : α → Nd} {l : List α} {lsn : List (List AV)} (h : MapG R f l lsn) : MapG R (fun k => k) (l.map f) lsn := by
 intro j k cs h1 h2
 rw [List.getElem?_map] at h1
 obtain ⟨y, hy, rfl⟩ := Option.map_eq_some_iff.1 h1
 exact h j y cs hy h2
theorem leafG {R : Rws} {o s : List Nat} {z a : Int} (hb : Bytes o ∧ Bytes s) : RdG R (.mk o s z a []) [.str o, .str s, .int .i64 z, .int .i64 a, .nils] := .leaf rfl rfl hb
theorem by_var2 {s : List Nat} (h : Bytes s) : Bytes [118, 97, 114] ∧ Bytes s := ⟨by unfold Bytes; decide, h⟩

theorem pBound_ev {R : Rws} {ns : List (List Nat)} {ts : List Nd} {kn kt : AV} {lts : List (List AV)} {st : St} (hf : Fresh st) (hR : inH R st.h.get) (hN : RdR st.h.get [] 1 (txC ns) kn) (hTs : KidsG R ts kt lts) {o s : List Nat} {z a : Int} {l : List Nd} {cs : List AV} (hr : RdG R (.mk o s z a l) cs) {C : Int} {B0 : Nat} (hP : PutS C B0 (szN (.mk o s z a l)) ts) (hok : okB C (.mk o s z a l) = true) (hbind : o = [101, 120] ∨ o = [97, 108, 108]) (hIH : ∀ k, k ∈ l → NodeP C k) : ∃ v st', Ev Tryd.prog envD 75 [.agg [kn, kt], .agg cs] st v st' ∧ NewN R st st' (putN cntN (.mk o s z a l) ns ts) v ∧ Qt st st' := by
 have hr0 := hr
 obtain ⟨kk, ls, rfl, hK, hb⟩ := hr.open5
 have hln := hK.ln
 have hbn := hK.bnd
 obtain ⟨hnl, hz0, hzC, hone, hokk, _⟩ := okB_open hok
 have hl1' := hone hbind
 obtain ⟨k0, hk0⟩ : ∃ k, l[0]? = some k := ⟨_, List.getElem?_eq_getElem (by omega)⟩
 have hl1 := kid_one hk0 hl1'
 have hszk : szN k0 + 1 ≤ szN (.mk o s z a l) := by rw [szN, hl1, szL, szL]; omega
 have hsz := hP.sz
 have hb1 := hP.b
 have hmul : szN (.mk o s z a l) * 2 ≤ szN (.mk o s z a l) * (B0 + 1) := Nat.mul_le_mul_left _ (by omega)
 refine J5 rfl Tryd.func75 rfl Tryd.ntmps75 rfl (by decide) (by simp) fun T hT => ?_
 have K : KnT [(0, _), (1, _)] T := (.cons (hT 0) (.cons (hT 1) .nil))
 have M := Mem.start hf
 refine Qh <| Qa ?_
 refine Ub K M rfl (Qf hN.cell (Qf hTs.cell Q7)) (by decide) fun c2 _ _ K M => ?_
 refine Ub K M rfl (Qf rfl (Qf rfl (Qf rfl (Qf rfl (Qf hK.cell Q7))))) (by decide) fun c3 _ _ K M => ?_
 refine Jy K M Jd (by decide) fun c4 _ _ K M => ?_
 refine Qd ?_
 show W _ _ _ _ _ _ _
 refine Qh <| Qa <| o1 K (Qe Qw rfl) rfl fun _ K => o1 K (Qg rfl (M.load (k := 1) rfl (Qk Qu rfl))) rfl fun _ K => ?_
 obtain ⟨⟨o15, s15, z15, a15, l15⟩, hi15⟩ : ∃ k, l[0]? = some k := ⟨_, List.getElem?_eq_getElem (by omega)⟩
 have hm15 := kids_mem hi15
 obtain ⟨_, hc15, hn15⟩ := hK.get hi15
 have hp15 := hn15
 obtain ⟨kk15, ls15, rfl, hK15, hb15⟩ := hp15.open5
 obtain ⟨x15, m15, f15, q15, _, la15, lo15, lp15⟩ := (hK.r (M.inH hR)).load (i := 0) (cs := _) hc15
 refine o1 K (Q0 (j := 0) Jf (congrArg some q15) rfl (by rw [hK.ln]; omega)) rfl fun _ K => o1 K (Qg rfl (la15 _ Qi)) rfl fun _ K => ?_
 refine Jy K M Jd (by decide) fun c5 _ _ K M => ?_
 refine Qz (k := 0) K M rfl rfl rfl Q6 rfl (Qf rfl (Qf rfl (Qf rfl (Qf rfl (Qf hK15.cell Q7))))) rfl fun _ M => ?_
 refine Qd ?_
 show W _ _ _ _ _ _ _
 refine Qh <| Qa <| o1 K (Qg rfl (M.load (k := 3) rfl (Ql Ug rfl))) rfl fun _ K => o1 K (Qg rfl (M.load (k := 0) rfl (Ql Qi rfl))) rfl fun _ K => o1 K (Qe Ja rfl) rfl fun _ K => o1 K (Qg rfl (M.load (k := 2) rfl (Qk Qx rfl))) rfl fun _ K => ?_
 have hle21 := M.le
 have hkk15 : k0 = (.mk o15 s15 z15 a15 l15) := by have e := hk0.symm.trans hi15; injection e
 subst hkk15
 have hmk : szN (.mk o15 s15 z15 a15 l15) * (B0 + 1) ≤ 500000 := Nat.le_trans (Nat.mul_le_mul_right _ (by omega)) hsz
 have hmk2 : szN (.mk o15 s15 z15 a15 l15) * (B0 + 1) = szN (.mk o15 s15 z15 a15 l15) * B0 + szN (.mk o15 s15 z15 a15 l15) := Nat.mul_succ _ _
 have hB5 : B0 + 1 ≤ 500000 := Nat.le_trans (Nat.le_mul_of_pos_left _ (szN_pos (.mk o15 s15 z15 a15 l15))) hmk
 have hfk := freeN_len (.mk o15 s15 z15 a15 l15)
 obtain ⟨v21, st21, ev21, ⟨kx21, ky21, A21, B21, lsn, rfl, hA21, hB21, hlen, hmap, hS21⟩, q21⟩ := pOnly_ev M.fresh (M.inH hR) (RdR.mem M hN (by simp)) hTs hn15 s (by omega)
 refine o1 K (Qn rfl ev21) rfl fun _ K => ?_
 replace M := M.callSeg q21 hS21
 replace hA21 := hA21.less hle21
 replace hB21 := hB21.less hle21
 obtain ⟨pl, hpl⟩ : ∃ pl, onlyN ns ts s (freeN (.mk o15 s15 z15 a15 l15)) = pl := ⟨_, rfl⟩
 rw [hpl] at hA21 hlen hmap
 have hpn : pl.length ≤ szN (.mk o15 s15 z15 a15 l15) := by rw [← hpl]; exact Nat.le_trans (onlyN_le _ _ _ _) (freeN_len _)
 have hplm : ∀ p ∈ pl, p.2 ∈ ts := fun p hp => by rw [← hpl] at hp; exact lookT_mem (onlyN_mem hp).2.2
 replace M := Mem.cast (M' := ((c5, 0, [.str o15, .str s15, .int .i64 z15, .int .i64 a15, kk15]) :: (c4, 0, [.str [], .str [], .int .i64 0, .int .i64 0, .nils]) :: (c3, 0, [.str o, .str s, .int .i64 z, .int .i64 a, kk]) :: (c2, 0, [kn, kt]) :: (A21 ++ (B21 ++ [])))) M (by first | (simp only [List.append_assoc, List.cons_append, List.nil_append, List.append_nil, List.set_cons_zero, List.set_cons_succ]; done) | (simp only [List.append_assoc, List.cons_append, List.nil_append, List.append_nil, List.set_cons_zero, List.set_cons_succ]; rfl))
 refine Jy K M ze_free_put (by decide) fun c6 _ _ K M => ?_
 refine Qz (k := 0) K M rfl rfl rfl sz_free_put rfl (Qf hA21.cell (Qf hB21.cell Q7)) rfl fun _ M => ?_
 refine Qd ?_
 show W _ _ _ _ _ _ _
 refine Qh <| Qa <| o1 K (Qg rfl (M.load (k := 1) rfl (Ql Qi rfl))) rfl fun _ K => ?_
 obtain ⟨v23, st23, ev23, nr23, q23⟩ := tNamesP_ev M.fresh (hn15.toN (M.inH hR)) (by omega)
 refine o1 K (Qn rfl ev23) rfl fun _ K => ?_
 obtain ⟨A23, hA23, M⟩ := M.callPAcc q23 nr23
 replace M := Mem.cast (M' := ((c6, 0, [kx21, ky21]) :: (c5, 0, [.str o15, .str s15, .int .i64 z15, .int .i64 a15, kk15]) :: (c4, 0, [.str [], .str [], .int .i64 0, .int .i64 0, .nils]) :: (c3, 0, [.str o, .str s, .int .i64 z, .int .i64 a, kk]) :: (c2, 0, [kn, kt]) :: (A21 ++ (B21 ++ (A23 ++ []))))) M (by first | (simp only [List.append_assoc, List.cons_append, List.nil_append, List.append_nil, List.set_cons_zero, List.set_cons_succ]; done) | (simp only [List.append_assoc, List.cons_append, List.nil_append, List.append_nil, List.set_cons_zero, List.set_cons_succ]; rfl))
 refine o1 K (Qb rfl) rfl fun _ K => Qd ?_
 show W _ _ _ _ _ _ _
 refine Qh <| Qa <| o1 K (Qb rfl) rfl fun _ K => Qd ?_
 show W _ _ _ _ _ _ _
 refine Qh <| Qh <| Qa <| o1 K (Qe fo_free_put_1 rfl) rfl fun _ K => o1 K (Qg rfl (M.load (k := 0) rfl (Qk Qu rfl))) rfl fun _ K => o1 K (Jn Q9 rfl rfl hB21.len) rfl fun _ K => o1 K (Qc rfl) rfl fun _ K => Qd ?_
 show W _ _ _ _ _ _ _
 refine Q5 ?_
 refine w_loop (fun mm1 T st9 => ∃ (i : Nat) (cg : Bool) (k7 : AV) (A7 : Rows0), mm1 = pl.length - i ∧ KnT [(3, .ptr c3 0 0), (4, .ptr c4 0 0), (5, .ptr c5 0 0), (6, .ptr c6 0 0), (7, k7), (8, .bool cg), (25, ky21), (26, .int .i64 (((lsn.length : Nat) : Int))), (27, .int .i64 (((i : Nat) : Int)))] T ∧ Mem st.h.get st.n [] st9 ((c6, 0, [kx21, ky21]) :: (c5, 0, [.str o15, .str s15, .int .i64 z15, .int .i64 a15, kk15]) :: (c4, 0, [.str [], .str [], .int .i64 0, .int .i64 0, .nils]) :: (c3, 0, [.str o, .str s, .int .i64 z, .int .i64 a, kk]) :: (c2, 0, [kn, kt]) :: (A21 ++ (B21 ++ (A7 ++ [])))) ∧ PAcc st.n A7 k7 (freeN (.mk o15 s15 z15 a15 l15) ++ ((pl.take i).map fun p => freeN p.2).flatten) ∧ cg = (pl.take i).any (fun p => inB s (freeN p.2)) ∧ i ≤ pl.length ∧ (freeN (.mk o15 s15 z15 a15 l15) ++ ((pl.take i).map fun p => freeN p.2).flatten).length ≤ szN (.mk o15 s15 z15 a15 l15) + i * B0) (fun mm1 T st9 hI => ?_) _ _ _ ⟨0, false, v23, A23, rfl, (.cons (K _ _ rfl) (.cons (K _ _ rfl) (.cons (K _ _ rfl) (.cons (K _ _ rfl) (.cons (K _ _ rfl) (.cons (K _ _ rfl) (.cons (K _ _ rfl) (.cons (K _ _ rfl) (.cons (K _ _ rfl) .nil))))))))), M.less (.refl _), (by rw [List.take_zero]; simpa using hA23), (by rw [List.take_zero]; rfl), (Nat.zero_le _), (by rw [List.take_zero]; simpa using freeN_len _)⟩
 obtain ⟨i, cg, k7, A7, rfl, K, M, hU, hcg, hi, hul⟩ := hI
 have hib : i * B0 ≤ szN (.mk o15 s15 z15 a15 l15) * B0 := Nat.mul_le_mul_right _ (by omega)
 refine Qh <| Qa <| o1 K (os_lss rfl rfl) rfl fun _ K => Qd ?_
 show W _ _ _ _ _ _ _
 refine Qh ?_
 refine Qr (K.opd rfl) (fun h28 => ?_) (fun h28 => ?_)
 ·have hb28 := h28
  replace h28 := of_decide_eq_true h28
  refine Q3 ?_
  show W _ _ _ _ _ _ _
  refine Qh <| Q5 <| Qh <| Qa ?_
  obtain ⟨⟨y29, ⟨o29, s29, z29, a29, l29⟩⟩, hi29⟩ : ∃ k, pl[i]? = some k := ⟨_, List.getElem?_eq_getElem (by omega)⟩
  obtain ⟨_, hc29⟩ : ∃ cs, lsn[i]? = some cs := ⟨_, List.getElem?_eq_getElem (by omega)⟩
  have hn29 := hmap i _ _ hi29 hc29
  have hp29 := hn29
  obtain ⟨kk29, ls29, rfl, hK29, hb29⟩ := hp29.open5
  have ht29 : szN (.mk o29 s29 z29 a29 l29) ≤ B0 := (hP.t _ (hplm _ (List.mem_of_getElem? hi29))).1
  have hft29 := freeN_len (.mk o29 s29 z29 a29 l29)
  have hfs29 : (freeN (Prod.snd (y29, Nd.mk o29 s29 z29 a29 l29))).length ≤ B0 := Nat.le_trans (freeN_len _) ht29
  obtain ⟨x29, m29, f29, q29, _, la29, lo29, lp29⟩ := (Mem.accR (L := ((c6, 0, [kx21, ky21]) :: (c5, 0, [.str o15, .str s15, .int .i64 z15, .int .i64 a15, kk15]) :: (c4, 0, [.str [], .str [], .int .i64 0, .int .i64 0, .nils]) :: (c3, 0, [.str o, .str s, .int .i64 z, .int .i64 a, kk]) :: (c2, 0, [kn, kt]) :: (A21 ++ []))) (A := B21) (B := (A7 ++ [])) (Mem.cast (M := ((c6, 0, [kx21, ky21]) :: (c5, 0, [.str o15, .str s15, .int .i64 z15, .int .i64 a15, kk15]) :: (c4, 0, [.str [], .str [], .int .i64 0, .int .i64 0, .nils]) :: (c3, 0, [.str o, .str s, .int .i64 z, .int .i64 a, kk]) :: (c2, 0, [kn, kt]) :: (A21 ++ (B21 ++ (A7 ++ []))))) (M' := ((c6, 0, [kx21, ky21]) :: (c5, 0, [.str o15, .str s15, .int .i64 z15, .int .i64 a15, kk15]) :: (c4, 0, [.str [], .str [], .int .i64 0, .int .i64 0, .nils]) :: (c3, 0, [.str o, .str s, .int .i64 z, .int .i64 a, kk]) :: (c2, 0, [kn, kt]) :: (A21 ++ [])) ++ (B21 ++ (A7 ++ []))) M (by first | (simp only [List.append_assoc, List.cons_append, List.nil_append, List.append_nil, List.set_cons_zero, List.set_cons_succ]; done) | (simp only [List.append_assoc, List.cons_append, List.nil_append, List.append_nil, List.set_cons_zero, List.set_cons_succ]; rfl))) hB21).load (i := i) (cs := _) hc29
  refine o1 K (Q0 (j := i) Jf (congrArg some q29) rfl (by omega)) rfl fun _ K => o1 K (Qg rfl (la29 _ Qi)) rfl fun _ K => ?_
  refine Jy K M Jd (by decide) fun c10 _ _ K M => ?_
  refine Qz (k := 0) K M rfl rfl rfl Q6 rfl (Qf rfl (Qf rfl (Qf rfl (Qf rfl (Qf hK29.cell Q7))))) rfl fun _ M => ?_
  refine Qd ?_
  show W _ _ _ _ _ _ _
  refine Qh <| Qa <| o1 K (Qg rfl (M.load (k := 0) rfl (Ql Qi rfl))) rfl fun _ K => ?_
  obtain ⟨v32, st32, ev32, nr32, q32⟩ := tNamesP_ev M.fresh (hn29.toN (M.inH hR)) (by omega)
  refine o1 K (Qn rfl ev32) rfl fun _ K => ?_
  obtain ⟨A32, hA32, M⟩ := M.callPAcc q32 nr32
  replace M := Mem.cast (M' := ((c10, 0, [.str o29, .str s29, .int .i64 z29, .int .i64 a29, kk29]) :: (c6, 0, [kx21, ky21]) :: (c5, 0, [.str o15, .str s15, .int .i64 z15, .int .i64 a15, kk15]) :: (c4, 0, [.str [], .str [], .int .i64 0, .int .i64 0, .nils]) :: (c3, 0, [.str o, .str s, .int .i64 z, .int .i64 a, kk]) :: (c2, 0, [kn, kt]) :: (A21 ++ (B21 ++ (A7 ++ (A32 ++ [])))))) M (by first | (simp only [List.append_assoc, List.cons_append, List.nil_append, List.append_nil, List.set_cons_zero, List.set_cons_succ]; done) | (simp only [List.append_assoc, List.cons_append, List.nil_append, List.append_nil, List.set_cons_zero, List.set_cons_succ]; rfl))
  refine o1 K (Qb rfl) rfl fun _ K => Qd ?_
  show W _ _ _ _ _ _ _
  refine Qh <| Qa <| o1 K (Qc rfl) rfl fun _ K => ?_
  refine oB K (Qc rfl) rfl fun b34 _ e34 K => ?_
  cases b34
  ·refine og K rfl rfl (Qc rfl) rfl fun _ K => og K rfl rfl (Qe Ja rfl) rfl fun _ K => og K rfl rfl (Qg rfl (M.load (k := 4) rfl (Qk Qx rfl))) rfl fun _ K => ?_
   obtain ⟨v38, st38, ev38, rfl, q38⟩ := txContains_ev M.fresh (Mem.paccR (L := ((c10, 0, [.str o29, .str s29, .int .i64 z29, .int .i64 a29, kk29]) :: (c6, 0, [kx21, ky21]) :: (c5, 0, [.str o15, .str s15, .int .i64 z15, .int .i64 a15, kk15]) :: (c4, 0, [.str [], .str [], .int .i64 0, .int .i64 0, .nils]) :: (c3, 0, [.str o, .str s, .int .i64 z, .int .i64 a, kk]) :: (c2, 0, [kn, kt]) :: (A21 ++ (B21 ++ (A7 ++ []))))) (A := A32) (B := []) (Mem.cast (M := ((c10, 0, [.str o29, .str s29, .int .i64 z29, .int .i64 a29, kk29]) :: (c6, 0, [kx21, ky21]) :: (c5, 0, [.str o15, .str s15, .int .i64 z15, .int .i64 a15, kk15]) :: (c4, 0, [.str [], .str [], .int .i64 0, .int .i64 0, .nils]) :: (c3, 0, [.str o, .str s, .int .i64 z, .int .i64 a, kk]) :: (c2, 0, [kn, kt]) :: (A21 ++ (B21 ++ (A7 ++ (A32 ++ [])))))) (M' := ((c10, 0, [.str o29, .str s29, .int .i64 z29, .int .i64 a29, kk29]) :: (c6, 0, [kx21, ky21]) :: (c5, 0, [.str o15, .str s15, .int .i64 z15, .int .i64 a15, kk15]) :: (c4, 0, [.str [], .str [], .int .i64 0, .int .i64 0, .nils]) :: (c3, 0, [.str o, .str s, .int .i64 z, .int .i64 a, kk]) :: (c2, 0, [kn, kt]) :: (A21 ++ (B21 ++ (A7 ++ [])))) ++ (A32 ++ [])) M (by first | (simp only [List.append_assoc, List.cons_append, List.nil_append, List.append_nil, List.set_cons_zero, List.set_cons_succ]; done) | (simp only [List.append_assoc, List.cons_append, List.nil_append, List.append_nil, List.set_cons_zero, List.set_cons_succ]; rfl))) hA32) s
   refine og K rfl rfl (Qn rfl ev38) rfl fun _ K => ?_
   replace M := M.quiet q38
   refine o1 K (Qj rfl rfl rfl) rfl fun _ K => o1 K (Qb rfl) rfl fun _ K => Qd ?_
   show W _ _ _ _ _ _ _
   refine Qa <| o1 K (Qc rfl) rfl fun _ K => o1 K (Qc rfl) rfl fun _ K => ?_
   obtain ⟨ks42, A42, st42, hap42, hA42, M42⟩ := Mem.paccS (L := ((c10, 0, [.str o29, .str s29, .int .i64 z29, .int .i64 a29, kk29]) :: (c6, 0, [kx21, ky21]) :: (c5, 0, [.str o15, .str s15, .int .i64 z15, .int .i64 a15, kk15]) :: (c4, 0, [.str [], .str [], .int .i64 0, .int .i64 0, .nils]) :: (c3, 0, [.str o, .str s, .int .i64 z, .int .i64 a, kk]) :: (c2, 0, [kn, kt]) :: (A21 ++ (B21 ++ [])))) (A := A7) (B := (A32 ++ [])) (Mem.cast (M := ((c10, 0, [.str o29, .str s29, .int .i64 z29, .int .i64 a29, kk29]) :: (c6, 0, [kx21, ky21]) :: (c5, 0, [.str o15, .str s15, .int .i64 z15, .int .i64 a15, kk15]) :: (c4, 0, [.str [], .str [], .int .i64 0, .int .i64 0, .nils]) :: (c3, 0, [.str o, .str s, .int .i64 z, .int .i64 a, kk]) :: (c2, 0, [kn, kt]) :: (A21 ++ (B21 ++ (A7 ++ (A32 ++ [])))))) (M' := ((c10, 0, [.str o29, .str s29, .int .i64 z29, .int .i64 a29, kk29]) :: (c6, 0, [kx21, ky21]) :: (c5, 0, [.str o15, .str s15, .int .i64 z15, .int .i64 a15, kk15]) :: (c4, 0, [.str [], .str [], .int .i64 0, .int .i64 0, .nils]) :: (c3, 0, [.str o, .str s, .int .i64 z, .int .i64 a, kk]) :: (c2, 0, [kn, kt]) :: (A21 ++ (B21 ++ []))) ++ (A7 ++ (A32 ++ []))) M (by first | (simp only [List.append_assoc, List.cons_append, List.nil_append, List.append_nil, List.set_cons_zero, List.set_cons_succ]; done) | (simp only [List.append_assoc, List.cons_append, List.nil_append, List.append_nil, List.set_cons_zero, List.set_cons_succ]; rfl))) hU Jv (Mem.paccR (L := ((c10, 0, [.str o29, .str s29, .int .i64 z29, .int .i64 a29, kk29]) :: (c6, 0, [kx21, ky21]) :: (c5, 0, [.str o15, .str s15, .int .i64 z15, .int .i64 a15, kk15]) :: (c4, 0, [.str [], .str [], .int .i64 0, .int .i64 0, .nils]) :: (c3, 0, [.str o, .str s, .int .i64 z, .int .i64 a, kk]) :: (c2, 0, [kn, kt]) :: (A21 ++ (B21 ++ (A7 ++ []))))) (A := A32) (B := []) (Mem.cast (M := ((c10, 0, [.str o29, .str s29, .int .i64 z29, .int .i64 a29, kk29]) :: (c6, 0, [kx21, ky21]) :: (c5, 0, [.str o15, .str s15, .int .i64 z15, .int .i64 a15, kk15]) :: (c4, 0, [.str [], .str [], .int .i64 0, .int .i64 0, .nils]) :: (c3, 0, [.str o, .str s, .int .i64 z, .int .i64 a, kk]) :: (c2, 0, [kn, kt]) :: (A21 ++ (B21 ++ (A7 ++ (A32 ++ [])))))) (M' := ((c10, 0, [.str o29, .str s29, .int .i64 z29, .int .i64 a29, kk29]) :: (c6, 0, [kx21, ky21]) :: (c5, 0, [.str o15, .str s15, .int .i64 z15, .int .i64 a15, kk15]) :: (c4, 0, [.str [], .str [], .int .i64 0, .int .i64 0, .nils]) :: (c3, 0, [.str o, .str s, .int .i64 z, .int .i64 a, kk]) :: (c2, 0, [kn, kt]) :: (A21 ++ (B21 ++ (A7 ++ [])))) ++ (A32 ++ [])) M (by first | (simp only [List.append_assoc, List.cons_append, List.nil_append, List.append_nil, List.set_cons_zero, List.set_cons_succ]; done) | (simp only [List.append_assoc, List.cons_append, List.nil_append, List.append_nil, List.set_cons_zero, List.set_cons_succ]; rfl))) hA32) (by omega)
   refine o1 K (os_append rfl rfl rfl hap42) rfl fun _ K => ?_
   replace M := M42
   replace M := Mem.cast (M' := ((c10, 0, [.str o29, .str s29, .int .i64 z29, .int .i64 a29, kk29]) :: (c6, 0, [kx21, ky21]) :: (c5, 0, [.str o15, .str s15, .int .i64 z15, .int .i64 a15, kk15]) :: (c4, 0, [.str [], .str [], .int .i64 0, .int .i64 0, .nils]) :: (c3, 0, [.str o, .str s, .int .i64 z, .int .i64 a, kk]) :: (c2, 0, [kn, kt]) :: (A21 ++ (B21 ++ (A42 ++ (A32 ++ [])))))) M (by first | (simp only [List.append_assoc, List.cons_append, List.nil_append, List.append_nil, List.set_cons_zero, List.set_cons_succ]; done) | (simp only [List.append_assoc, List.cons_append, List.nil_append, List.append_nil, List.set_cons_zero, List.set_cons_succ]; rfl))
   refine o1 K (Qb rfl) rfl fun _ K => Qd ?_
   show W _ _ _ _ _ _ _
   refine Qa <| o1 K (Jm rfl rfl (by omega) (by omega)) rfl fun _ K => o1 K (Qc rfl) rfl fun _ K => Qd ?_
   exact ⟨_, (by omega), i + 1, _, ks42, A42, rfl, (.cons (K _ _ rfl) (.cons (K _ _ rfl) (.cons (K _ _ rfl) (.cons (K _ _ rfl) (.cons (K _ _ rfl) (.cons (K _ _ rfl) (.cons (K _ _ rfl) (.cons (K _ _ rfl) (.cons (K _ _ rfl) .nil))))))))), M.less (.cons _ (.cons_cons _ (.cons_cons _ (.cons_cons _ (.cons_cons _ (.cons_cons _ (List.Sublist.append_left (List.Sublist.append_left (List.Sublist.append_left (List.nil_sublist _) _) _) _))))))), (by rw [flat_take hi29, ← List.append_assoc]; exact hA42), (by rw [any_take hi29, ← hcg]; simp_all), (by omega), (by rw [flat_take hi29, ← List.append_assoc, List.length_append, Nat.succ_mul]; omega)⟩
  refine gn K rfl rfl rfl rfl fun _ K => gn K rfl rfl rfl rfl fun _ K => gn K rfl rfl rfl rfl fun _ K => gn K rfl rfl rfl rfl fun _ K => o1 K (Qj rfl rfl rfl) rfl fun _ K => o1 K (Qb rfl) rfl fun _ K => Qd ?_
  show W _ _ _ _ _ _ _
  refine Qa <| o1 K (Qc rfl) rfl fun _ K => o1 K (Qc rfl) rfl fun _ K => ?_
  obtain ⟨ks42, A42, st42, hap42, hA42, M42⟩ := Mem.paccS (L := ((c10, 0, [.str o29, .str s29, .int .i64 z29, .int .i64 a29, kk29]) :: (c6, 0, [kx21, ky21]) :: (c5, 0, [.str o15, .str s15, .int .i64 z15, .int .i64 a15, kk15]) :: (c4, 0, [.str [], .str [], .int .i64 0, .int .i64 0, .nils]) :: (c3, 0, [.str o, .str s, .int .i64 z, .int .i64 a, kk]) :: (c2, 0, [kn, kt]) :: (A21 ++ (B21 ++ [])))) (A := A7) (B := (A32 ++ [])) (Mem.cast (M := ((c10, 0, [.str o29, .str s29, .int .i64 z29, .int .i64 a29, kk29]) :: (c6, 0, [kx21, ky21]) :: (c5, 0, [.str o15, .str s15, .int .i64 z15, .int .i64 a15, kk15]) :: (c4, 0, [.str [], .str [], .int .i64 0, .int .i64 0, .nils]) :: (c3, 0, [.str o, .str s, .int .i64 z, .int .i64 a, kk]) :: (c2, 0, [kn, kt]) :: (A21 ++ (B21 ++ (A7 ++ (A32 ++ [])))))) (M' := ((c10, 0, [.str o29, .str s29, .int .i64 z29, .int .i64 a29, kk29]) :: (c6, 0, [kx21, ky21]) :: (c5, 0, [.str o15, .str s15, .int .i64 z15, .int .i64 a15, kk15]) :: (c4, 0, [.str [], .str [], .int .i64 0, .int .i64 0, .nils]) :: (c3, 0, [.str o, .str s, .int .i64 z, .int .i64 a, kk]) :: (c2, 0, [kn, kt]) :: (A21 ++ (B21 ++ []))) ++ (A7 ++ (A32 ++ []))) M (by first | (simp only [List.append_assoc, List.cons_append, List.nil_append, List.append_nil, List.set_cons_zero, List.set_cons_succ]; done) | (simp only [List.append_assoc, List.cons_append, List.nil_append, List.append_nil, List.set_cons_zero, List.set_cons_succ]; rfl))) hU Jv (Mem.paccR (L := ((c10, 0, [.str o29, .str s29, .int .i64 z29, .int .i64 a29, kk29]) :: (c6, 0, [kx21, ky21]) :: (c5, 0, [.str o15, .str s15, .int .i64 z15, .int .i64 a15, kk15]) :: (c4, 0, [.str [], .str [], .int .i64 0, .int .i64 0, .nils]) :: (c3, 0, [.str o, .str s, .int .i64 z, .int .i64 a, kk]) :: (c2, 0, [kn, kt]) :: (A21 ++ (B21 ++ (A7 ++ []))))) (A := A32) (B := []) (Mem.cast (M := ((c10, 0, [.str o29, .str s29, .int .i64 z29, .int .i64 a29, kk29]) :: (c6, 0, [kx21, ky21]) :: (c5, 0, [.str o15, .str s15, .int .i64 z15, .int .i64 a15, kk15]) :: (c4, 0, [.str [], .str [], .int .i64 0, .int .i64 0, .nils]) :: (c3, 0, [.str o, .str s, .int .i64 z, .int .i64 a, kk]) :: (c2, 0, [kn, kt]) :: (A21 ++ (B21 ++ (A7 ++ (A32 ++ [])))))) (M' := ((c10, 0, [.str o29, .str s29, .int .i64 z29, .int .i64 a29, kk29]) :: (c6, 0, [kx21, ky21]) :: (c5, 0, [.str o15, .str s15, .int .i64 z15, .int .i64 a15, kk15]) :: (c4, 0, [.str [], .str [], .int .i64 0, .int .i64 0, .nils]) :: (c3, 0, [.str o, .str s, .int .i64 z, .int .i64 a, kk]) :: (c2, 0, [kn, kt]) :: (A21 ++ (B21 ++ (A7 ++ [])))) ++ (A32 ++ [])) M (by first | (simp only [List.append_assoc, List.cons_append, List.nil_append, List.append_nil, List.set_cons_zero, List.set_cons_succ]; done) | (simp only [List.append_assoc, List.cons_append, List.nil_append, List.append_nil, List.set_cons_zero, List.set_cons_succ]; rfl))) hA32) (by omega)
  refine o1 K (os_append rfl rfl rfl hap42) rfl fun _ K => ?_
  replace M := M42
  replace M := Mem.cast (M' := ((c10, 0, [.str o29, .str s29, .int .i64 z29, .int .i64 a29, kk29]) :: (c6, 0, [kx21, ky21]) :: (c5, 0, [.str o15, .str s15, .int .i64 z15, .int .i64 a15, kk15]) :: (c4, 0, [.str [], .str [], .int .i64 0, .int .i64 0, .nils]) :: (c3, 0, [.str o, .str s, .int .i64 z, .int .i64 a, kk]) :: (c2, 0, [kn, kt]) :: (A21 ++ (B21 ++ (A42 ++ (A32 ++ [])))))) M (by first | (simp only [List.append_assoc, List.cons_append, List.nil_append, List.append_nil, List.set_cons_zero, List.set_cons_succ]; done) | (simp only [List.append_assoc, List.cons_append, List.nil_append, List.append_nil, List.set_cons_zero, List.set_cons_succ]; rfl))
  refine o1 K (Qb rfl) rfl fun _ K => Qd ?_
  show W _ _ _ _ _ _ _
  refine Qa <| o1 K (Jm rfl rfl (by omega) (by omega)) rfl fun _ K => o1 K (Qc rfl) rfl fun _ K => Qd ?_
  exact ⟨_, (by omega), i + 1, _, ks42, A42, rfl, (.cons (K _ _ rfl) (.cons (K _ _ rfl) (.cons (K _ _ rfl) (.cons (K _ _ rfl) (.cons (K _ _ rfl) (.cons (K _ _ rfl) (.cons (K _ _ rfl) (.cons (K _ _ rfl) (.cons (K _ _ rfl) .nil))))))))), M.less (.cons _ (.cons_cons _ (.cons_cons _ (.cons_cons _ (.cons_cons _ (.cons_cons _ (List.Sublist.append_left (List.Sublist.append_left (List.Sublist.append_left (List.nil_sublist _) _) _) _))))))), (by rw [flat_take hi29, ← List.append_assoc]; exact hA42), (by rw [any_take hi29, ← hcg]; simp_all), (by omega), (by rw [flat_take hi29, ← List.append_assoc, List.length_append, Nat.succ_mul]; omega)⟩
 have hb28 := h28
 replace h28 := of_decide_eq_false h28
 refine Uk ?_
 show W _ _ _ _ _ _ _
 refine w_cut (J := fun T st9 => ∃ (kx2 : AV) (ky2 : AV) (A2 : Rows0) (B2 : Rows0) (nm2 : List Nat) (ns2 : List (List Nat)) (ts2 : List Nd) (lts2 : List (List AV)), KnT [(3, .ptr c3 0 0), (4, .ptr c4 0 0), (5, .ptr c5 0 0), (6, .ptr c6 0 0)] T ∧ Mem st.h.get st.n [] st9 ((c6, 0, [kx2, ky2]) :: (c5, 0, [.str o15, .str s15, .int .i64 z15, .int .i64 a15, kk15]) :: (c4, 0, [.str [], .str [], .int .i64 0, .int .i64 0, .nils]) :: (c3, 0, [.str o, .str nm2, .int .i64 z, .int .i64 a, kk]) :: (c2, 0, [kn, kt]) :: (A2 ++ (B2 ++ []))) ∧ Acc st.n 1 A2 kx2 (txC ns2) ∧ Acc st.n 5 B2 ky2 lts2 ∧ lts2.length = ts2.length ∧ MapG R (fun k => k) ts2 lts2 ∧ boundX cntN s l ns ts = ⟨nm2, ns2, ts2⟩ ∧ Bytes nm2 ∧ PutS C B0 (szN (.mk o15 s15 z15 a15 l15)) ts2) ?_ (fun T st9 hJ => ?_)
 ·refine Qh <| Qa <| o1 K (Qc rfl) rfl fun _ K => Qd ?_
  show W _ _ _ _ _ _ _
  refine Qr (K.opd rfl) (fun h44 => ?_) (fun h44 => ?_)
  ·have hb44 := h44
   refine Qh <| Qa <| o1 K (Qe Ja rfl) rfl fun _ K => o1 K (Qg rfl (M.load (k := 3) rfl (Qk Qx rfl))) rfl fun _ K => o1 K (Qc rfl) rfl fun _ K => ?_
   have htk : pl.take i = pl := List.take_of_length_le (by omega)
   rw [htk] at hU hul
   obtain ⟨v48, st48, ev48, rfl, q48⟩ := fresh_ev M.fresh (bl := freeN (.mk o15 s15 z15 a15 l15) ++ (pl.map fun p => freeN p.2).flatten) (Mem.paccR (L := ((c6, 0, [kx21, ky21]) :: (c5, 0, [.str o15, .str s15, .int .i64 z15, .int .i64 a15, kk15]) :: (c4, 0, [.str [], .str [], .int .i64 0, .int .i64 0, .nils]) :: (c3, 0, [.str o, .str s, .int .i64 z, .int .i64 a, kk]) :: (c2, 0, [kn, kt]) :: (A21 ++ (B21 ++ [])))) (A := A7) (B := []) (Mem.cast (M := ((c6, 0, [kx21, ky21]) :: (c5, 0, [.str o15, .str s15, .int .i64 z15, .int .i64 a15, kk15]) :: (c4, 0, [.str [], .str [], .int .i64 0, .int .i64 0, .nils]) :: (c3, 0, [.str o, .str s, .int .i64 z, .int .i64 a, kk]) :: (c2, 0, [kn, kt]) :: (A21 ++ (B21 ++ (A7 ++ []))))) (M' := ((c6, 0, [kx21, ky21]) :: (c5, 0, [.str o15, .str s15, .int .i64 z15, .int .i64 a15, kk15]) :: (c4, 0, [.str [], .str [], .int .i64 0, .int .i64 0, .nils]) :: (c3, 0, [.str o, .str s, .int .i64 z, .int .i64 a, kk]) :: (c2, 0, [kn, kt]) :: (A21 ++ (B21 ++ []))) ++ (A7 ++ [])) M (by first | (simp only [List.append_assoc, List.cons_append, List.nil_append, List.append_nil, List.set_cons_zero, List.set_cons_succ]; done) | (simp only [List.append_assoc, List.cons_append, List.nil_append, List.append_nil, List.set_cons_zero, List.set_cons_succ]; rfl))) hU) s (by omega) (by omega) hb.2
   refine o1 K (Qn rfl ev48) rfl fun _ K => ?_
   replace M := M.quiet q48
   refine o1 K (Qb rfl) rfl fun _ K => Qd ?_
   show W _ _ _ _ _ _ _
   refine Qh ?_
   refine w_drawI (l := [(0, 0), (1, 0), (2, 0), (3, 0), (4, 0), (5, 0), (6, 0), (7, 1), (8, 0), (9, 0), (10, 0), (11, 0), (12, 0), (13, 0), (14, 0), (15, 0)]) (by kernel_rfl) ?_
   have Mq := M
   refine d1 rfl K (Qe fo_free_put_0 rfl) rfl rfl fun _ K => d1 rfl K (Qg rfl (M.load (k := 0) rfl (Qk tk_S_string rfl))) rfl rfl fun _ K => d1 rfl K (Qe Ja rfl) rfl rfl fun _ K => d1 rfl K (Qg rfl (M.load (k := 3) rfl (Qk Qx rfl))) rfl rfl fun _ K => ?_
   refine wd_bs rfl K M Jv ze_string rfl rfl rfl rfl rfl fun c53 _ _ K M => ?_
   refine wd_acc1 (k2 := 0) (L := [(c53, 0, [.str s]), (c6, 0, [kx21, ky21]), (c5, 0, [.str o15, .str s15, .int .i64 z15, .int .i64 a15, kk15]), (c4, 0, [.str [], .str [], .int .i64 0, .int .i64 0, .nils]), (c3, 0, [.str o, .str s, .int .i64 z, .int .i64 a, kk]), (c2, 0, [kn, kt])]) (A := A21) (B := (B21 ++ (A7 ++ []))) rfl K M hA21 Jv rfl rfl rfl rfl (by rw [Jc, List.length_map]; omega) rfl fun ks54 A54 _ _ K hA54 M => ?_
   have Mp := Mq
   have Mq := M
   refine d1 rfl K (Qe fo_free_put_1 rfl) rfl rfl fun _ K => ?_
   refine wd_load1 rfl K rfl (M.load (k := 1) rfl (Qk Qu rfl)) (Mp.load (k := 0) rfl (Qk Qu rfl)) (eqV_one (eqOk_len hB21.len)) rfl (by decide) fun _ K => ?_
   refine d1 rfl K (Qc rfl) rfl rfl fun _ K => d1 rfl K (os_build st_api_Node rfl rfl) rfl rfl fun _ K => ?_
   refine wd_bs rfl K M J4 Jd rfl rfl rfl rfl rfl fun c59 _ _ K M => ?_
   refine wd_acc1 (k2 := 0) (L := ((c59, 0, [.str [118, 97, 114], .str ((freshN cntN s (freeN (.mk o15 s15 z15 a15 l15) ++ (pl.map fun p => freeN p.2).flatten))), .int .i64 0, .int .i64 0, .nils]) :: (c53, 0, [.str s]) :: (c6, 0, [kx21, ky21]) :: (c5, 0, [.str o15, .str s15, .int .i64 z15, .int .i64 a15, kk15]) :: (c4, 0, [.str [], .str [], .int .i64 0, .int .i64 0, .nils]) :: (c3, 0, [.str o, .str s, .int .i64 z, .int .i64 a, kk]) :: (c2, 0, [kn, kt]) :: (A54 ++ []))) (A := B21) (B := (A7 ++ [])) rfl K (Mem.cast (M := ((c59, 0, [.str [118, 97, 114], .str ((freshN cntN s (freeN (.mk o15 s15 z15 a15 l15) ++ (pl.map fun p => freeN p.2).flatten))), .int .i64 0, .int .i64 0, .nils]) :: (c53, 0, [.str s]) :: (c6, 0, [kx21, ky21]) :: (c5, 0, [.str o15, .str s15, .int .i64 z15, .int .i64 a15, kk15]) :: (c4, 0, [.str [], .str [], .int .i64 0, .int .i64 0, .nils]) :: (c3, 0, [.str o, .str s, .int .i64 z, .int .i64 a, kk]) :: (c2, 0, [kn, kt]) :: (A54 ++ (B21 ++ (A7 ++ []))))) (M' := ((c59, 0, [.str [118, 97, 114], .str ((freshN cntN s (freeN (.mk o15 s15 z15 a15 l15) ++ (pl.map fun p => freeN p.2).flatten))), .int .i64 0, .int .i64 0, .nils]) :: (c53, 0, [.str s]) :: (c6, 0, [kx21, ky21]) :: (c5, 0, [.str o15, .str s15, .int .i64 z15, .int .i64 a15, kk15]) :: (c4, 0, [.str [], .str [], .int .i64 0, .int .i64 0, .nils]) :: (c3, 0, [.str o, .str s, .int .i64 z, .int .i64 a, kk]) :: (c2, 0, [kn, kt]) :: (A54 ++ [])) ++ (B21 ++ (A7 ++ []))) M (by first | (simp only [List.append_assoc, List.cons_append, List.nil_append, List.append_nil, List.set_cons_zero, List.set_cons_succ]; done) | (simp only [List.append_assoc, List.cons_append, List.nil_append, List.append_nil, List.set_cons_zero, List.set_cons_succ]; rfl))) hB21 J4 rfl rfl rfl rfl (by omega) rfl fun ks60 A60 _ _ K hA60 M => ?_
   replace M := Mem.cast (M := ((c59, 0, [.str [118, 97, 114], .str ((freshN cntN s (freeN (.mk o15 s15 z15 a15 l15) ++ (pl.map fun p => freeN p.2).flatten))), .int .i64 0, .int .i64 0, .nils]) :: (c53, 0, [.str s]) :: (c6, 0, [kx21, ky21]) :: (c5, 0, [.str o15, .str s15, .int .i64 z15, .int .i64 a15, kk15]) :: (c4, 0, [.str [], .str [], .int .i64 0, .int .i64 0, .nils]) :: (c3, 0, [.str o, .str s, .int .i64 z, .int .i64 a, kk]) :: (c2, 0, [kn, kt]) :: (A54 ++ [])) ++ (A60 ++ (A7 ++ []))) (M' := ((c59, 0, [.str [118, 97, 114], .str ((freshN cntN s (freeN (.mk o15 s15 z15 a15 l15) ++ (pl.map fun p => freeN p.2).flatten))), .int .i64 0, .int .i64 0, .nils]) :: (c53, 0, [.str s]) :: (c6, 0, [kx21, ky21]) :: (c5, 0, [.str o15, .str s15, .int .i64 z15, .int .i64 a15, kk15]) :: (c4, 0, [.str [], .str [], .int .i64 0, .int .i64 0, .nils]) :: (c3, 0, [.str o, .str s, .int .i64 z, .int .i64 a, kk]) :: (c2, 0, [kn, kt]) :: (A54 ++ (A60 ++ (A7 ++ []))))) M (by first | (simp only [List.append_assoc, List.cons_append, List.nil_append, List.append_nil, List.set_cons_zero, List.set_cons_succ]; done) | (simp only [List.append_assoc, List.cons_append, List.nil_append, List.append_nil, List.set_cons_zero, List.set_cons_succ]; rfl))
   have Mp := Mq
   have Mq := M
   refine d1 rfl K (Qe fo_free_put_0 rfl) rfl rfl fun _ K => ?_
   refine wd_store1 (k := 2) rfl K M rfl rfl rfl sz_S_string (hA54.cell) rfl fun _ M => ?_
   have Mp := Mq
   have Mq := M
   refine d1 rfl K (Qe fo_free_put_1 rfl) rfl rfl fun _ K => ?_
   refine wd_store1 (k := 2) rfl K M rfl rfl rfl sz_S_api_Node (hA60.cell) rfl fun _ M => ?_
   have Mp := Mq
   have Mq := M
   refine wd_nil ?_
   show W _ _ _ _ _ _ _
   refine Qa <| o1 K (Qc rfl) rfl fun _ K => o1 K (Qe Ja rfl) rfl fun _ K => ?_
   refine Qz (k := 5) K M rfl rfl rfl sz_string rfl rfl rfl fun _ M => ?_
   refine Qd ?_
   have hpl2 : onlyN ns ts s (freeK l) = pl := by rw [hl1]; exact hpl
   exact ⟨ks54, ks60, A54, A60, freshN cntN s (freeN (.mk o15 s15 z15 a15 l15) ++ (pl.map fun p => freeN p.2).flatten), pl.map Prod.fst ++ [s], pl.map Prod.snd ++ [.mk [118, 97, 114] (freshN cntN s (freeN (.mk o15 s15 z15 a15 l15) ++ (pl.map fun p => freeN p.2).flatten)) 0 0 []], (lsn ++ [[.str [118, 97, 114], .str ((freshN cntN s (freeN (.mk o15 s15 z15 a15 l15) ++ (pl.map fun p => freeN p.2).flatten))), .int .i64 0, .int .i64 0, .nils]]), (.cons (K _ _ rfl) (.cons (K _ _ rfl) (.cons (K _ _ rfl) (.cons (K _ _ rfl) .nil)))), M.less (.cons _ (.cons _ (.cons_cons _ (.cons_cons _ (.cons_cons _ (.cons_cons _ (.cons_cons _ (List.Sublist.append_left (List.Sublist.append_left (List.nil_sublist _) _) _)))))))), (by first | exact hA21 | (rw [txC_app]; exact hA54)), (by first | exact hB21 | exact hA60), (by first | (rw [List.length_map]; exact hlen) | (simp only [List.length_append, List.length_map, hlen, List.length_cons, List.length_nil]; done)), (by first | exact hmap.ofMap | exact MapG.snocS hmap.ofMap (by rw [List.length_map]; exact hlen) (leafG (by_var2 (freshN_bytes _ hb.2 _)))), (by first | exact boundX_no hpl2 (by rw [htk] at hcg; rw [← hcg]; exact hb44) | (have := boundX_yes (cnt := cntN) hpl2 (by rw [htk] at hcg; rw [← hcg]; exact hb44); rw [hl1] at this ⊢; exact this)), (by first | exact hb.2 | exact freshN_bytes _ hb.2 _), (hP.less (by omega) (fun t ht => by first | (obtain ⟨p, hp, rfl⟩ := List.mem_map.1 ht; exact .inl (hplm p hp)) | (rcases List.mem_append.1 ht with ht | ht; (obtain ⟨p, hp, rfl⟩ := List.mem_map.1 ht; exact .inl (hplm p hp)); (rw [List.mem_singleton] at ht; subst ht; exact .inr ⟨by rw [szN, szL]; exact hP.b, Int.le_refl _, hP.c0⟩))))⟩
  have hb44 := h44
  refine Q3 ?_
  have htk : pl.take i = pl := List.take_of_length_le (by omega)
  have hpl2 : onlyN ns ts s (freeK l) = pl := by rw [hl1]; exact hpl
  exact ⟨kx21, ky21, A21, B21, s, pl.map Prod.fst, pl.map Prod.snd, lsn, (.cons (K _ _ rfl) (.cons (K _ _ rfl) (.cons (K _ _ rfl) (.cons (K _ _ rfl) .nil)))), M.less (.cons_cons _ (.cons_cons _ (.cons_cons _ (.cons_cons _ (.cons_cons _ (List.Sublist.append_left (List.Sublist.append_left (List.nil_sublist _) _) _)))))), (by first | exact hA21 | (rw [txC_app]; exact hA54)), (by first | exact hB21 | exact hA60), (by first | (rw [List.length_map]; exact hlen) | (simp only [List.length_append, List.length_map, hlen, List.length_cons, List.length_nil]; done)), (by first | exact hmap.ofMap | exact MapG.snocS hmap.ofMap (by rw [List.length_map]; exact hlen) (leafG (by_var2 (freshN_bytes _ hb.2 _)))), (by first | exact boundX_no hpl2 (by rw [htk] at hcg; rw [← hcg]; exact hb44) | (have := boundX_yes (cnt := cntN) hpl2 (by rw [htk] at hcg; rw [← hcg]; exact hb44); rw [hl1] at this ⊢; exact this)), (by first | exact hb.2 | exact freshN_bytes _ hb.2 _), (hP.less (by omega) (fun t ht => by first | (obtain ⟨p, hp, rfl⟩ := List.mem_map.1 ht; exact .inl (hplm p hp)) | (rcases List.mem_append.1 ht with ht | ht; (obtain ⟨p, hp, rfl⟩ := List.mem_map.1 ht; exact .inl (hplm p hp)); (rw [List.mem_singleton] at ht; subst ht; exact .inr ⟨by rw [szN, szL]; exact hP.b, Int.le_refl _, hP.c0⟩))))⟩
 obtain ⟨kx2, ky2, A2, B2, nm2, ns2, ts2, lts2, K, M, hA2, hBB2, hlen2, hmap2, hbx, hbn2, hP2⟩ := hJ
 have hok15 := hokk _ hm15
 refine Qh <| Qa <| o1 K (Qg rfl (M.load (k := 0) rfl (Ql Ug rfl))) rfl fun _ K => o1 K (Qg rfl (M.load (k := 1) rfl (Ql Qi rfl))) rfl fun _ K => ?_
 have hB2 : ∀ x ∈ B2, x ∈ ((c6, 0, [kx2, ky2]) :: (c5, 0, [.str o15, .str s15, .int .i64 z15, .int .i64 a15, kk15]) :: (c4, 0, [.str [], .str [], .int .i64 0, .int .i64 0, .nils]) :: (c3, 0, [.str o, .str nm2, .int .i64 z, .int .i64 a, kk]) :: (c2, 0, [kn, kt]) :: (A2 ++ (B2 ++ []))) := by intro x hx; simp [hx]
 have hin := M.inHB hR hB2
 have hK2 : KidsG (plusR R B2) ts2 ky2 lts2 := by have := hmap2.kids hlen2 hBB2; rwa [List.map_id'] at this
 obtain ⟨v67, st67, ev67, ⟨on67, sn67, zn67, an67, ln67, kkn67, A67, en67, rfl, hS67, hN67⟩, q67⟩ := hIH _ hm15 (plusR R B2) ns2 ts2 kx2 ky2 lts2 B0 _ _ M.fresh hin (hn15.mono fun _ _ _ h => .inl h) (Mem.accR (L := [(c6, 0, [kx2, ky2]), (c5, 0, [.str o15, .str s15, .int .i64 z15, .int .i64 a15, kk15]), (c4, 0, [.str [], .str [], .int .i64 0, .int .i64 0, .nils]), (c3, 0, [.str o, .str nm2, .int .i64 z, .int .i64 a, kk]), (c2, 0, [kn, kt])]) (A := A2) (B := (B2 ++ [])) M hA2) hK2 hP2 hok15
 refine o1 K (Qn rfl ev67) rfl fun _ K => ?_
 replace M := M.callSeg q67 hS67
 replace M := Mem.cast (M' := ((c6, 0, [kx2, ky2]) :: (c5, 0, [.str o15, .str s15, .int .i64 z15, .int .i64 a15, kk15]) :: (c4, 0, [.str [], .str [], .int .i64 0, .int .i64 0, .nils]) :: (c3, 0, [.str o, .str nm2, .int .i64 z, .int .i64 a, kk]) :: (c2, 0, [kn, kt]) :: (A2 ++ (B2 ++ (A67 ++ []))))) M (by first | (simp only [List.append_assoc, List.cons_append, List.nil_append, List.append_nil, List.set_cons_zero, List.set_cons_succ]; done) | (simp only [List.append_assoc, List.cons_append, List.nil_append, List.append_nil, List.set_cons_zero, List.set_cons_succ]; rfl))
 refine wr_bs K M J4 Jd rfl rfl (Qf rfl (Qf rfl (Qf rfl (Qf rfl (Qf hN67.cellK Q7))))) rfl rfl fun c68 _ _ K M => ?_
 refine o1 K (Qe Qw rfl) rfl fun _ K => ?_
 refine Qz (k := 4) K M rfl rfl rfl sz_S_api_Node rfl rfl rfl fun _ M => ?_
 refine Qd ?_
 show W _ _ _ _ _ _ _
 refine Qh <| Qa <| o1 K (Qg rfl (M.load (k := 4) rfl (Ql Qi rfl))) rfl fun _ K => ?_
 refine Qz (k := 3) K M rfl rfl rfl Q6 rfl rfl rfl fun _ M => ?_
 refine Qd ?_
 show W _ _ _ _ _ _ _
 refine Qs ?_
 refine ⟨.inr rfl, _, (Qm (Js K rfl (M.load (k := 3) rfl (Ql Qi rfl)))), ?_⟩
 refine ⟨⟨o, nm2, z, a, [putN cntN (.mk o15 s15 z15 a15 l15) ns2 ts2], .sl c68 0 0 1 5, (c68, 0, [.str on67, .str sn67, .int .i64 zn67, .int .i64 an67, kkn67]) :: (B2 ++ A67), ?_, rfl, M.seg (.cons_cons _ (.cons _ (.cons _ (.cons _ (.cons _ (.cons _ (List.Sublist.trans (List.sublist_append_left (B2 ++ A67) []) (by rw [List.append_assoc]; exact List.sublist_append_right _ _)))))))), ?_⟩, M.qt⟩
 ·rw [putN, if_neg (by rcases hbind with rfl | rfl <;> simp), if_neg (by rcases hbind with rfl | rfl <;> simp), if_pos hbind, hbx, hl1, putL_map]; rfl
 ·rw [putN, if_neg (by rcases hbind with rfl | rfl <;> simp), if_neg (by rcases hbind with rfl | rfl <;> simp), if_pos hbind, hbx, hl1, putL_map]
  refine one_node (List.mem_cons_self ..) (hN67.mono ?_) ⟨hb.1, hbn2⟩
  intro c m x h
  rcases h with (h | h) | h
  ·exact .inl h
  ·exact .inr (List.mem_cons_of_mem _ (List.mem_append_left _ h))
  ·exact .inr (List.mem_cons_of_mem _ (List.mem_append_right _ h))
end Go.Proofs.YtmjnbdkjekdkgaaDoor
