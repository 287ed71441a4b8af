/-
  sibylref7.Names.
-/
import Derived.Test.YtmjnbdkjekdkgaaDoorFlTrP
import Derived.Test.YtmjnbdkjekdkgaaDoorFlTrO
namespace Go.Proofs.YtmjnbdkjekdkgaaDoor
open Go Go.RowKit
set_option linter.unusedVariables false
set_option linter.unusedSimpArgs false
set_option linter.unnecessarySimpa false
set_option maxRecDepth 100000
set_option maxHeartbeats 1000000

theorem Mem.callAdd {h0 : Hp} {n0 : Nat} {st st' : St} {L A B : List (Nat × Nat × List AV)} {ks ks' : AV} {l l' : List (List Nat)} (hM : Mem h0 n0 [] st (L ++ (A ++ B))) (hA : Acc n0 1 A ks (txC l)) (q : Qt st st') (h : NewR st st' 1 ks' (txC l') ∨ (ks' = ks ∧ l' = l)) :
  ∃ A', Acc n0 1 A' ks' (txC l') ∧ Mem h0 n0 [] st' (L ++ (A' ++ B)) := by
 rcases h with h | ⟨rfl, rfl⟩
 ·obtain ⟨A', hA', hM'⟩ := hM.callAcc q h
  refine ⟨A', hA', ?_⟩
  have h1 := Mem.less hM' (M' := (L ++ B) ++ (A' ++ [])) (List.Sublist.append_right (List.Sublist.append_left (List.sublist_append_right A B) L) _)
  refine Mem.perm h1 ?_
  rw [List.append_nil, List.append_assoc]
  exact List.Perm.append_left L List.perm_append_comm
 ·exact ⟨A, hA, hM.quiet q⟩
/-- Put in their places one by one. -/
noncomputable def insAll (acc : List (List Nat)) (l : List (List Nat)) : List (List Nat) := l.foldl (fun a x => insN x a) acc
mutual
/-- The reference's names. -/
noncomputable def refN : Nd → List (List Nat)
 | .mk op name _ _ kids => refL kids (if op = [101, 120] ∨ op = [97, 108, 108] then some name else none) (if op = [118, 97, 114] ∨ op = [105, 115] then [name] else [])
noncomputable def refL : List Nd → Option (List Nat) → List (List Nat) → List (List Nat)
 | [], _, acc => acc
 | k :: l, b, acc => refL l b (insAll acc ((refN k).filter fun x => !decide (b = some x)))
end
theorem insN_len (x : List Nat) (l : List (List Nat)) : (insN x l).length ≤ l.length + 1 := by
 induction l with
 | nil => exact Nat.le_refl _
 | cons y l ih =>
  rw [insN]
  split
  ·simp; omega
  ·split <;> simp
theorem insAll_len (l : List (List Nat)) : ∀ acc : List (List Nat), (insAll acc l).length ≤ acc.length + l.length := by
 induction l with
 | nil => intro acc; exact Nat.le_refl _
 | cons x l ih =>
  intro acc
  have h1 := insN_len x acc
  have h2 := ih (insN x acc)
  show (insAll (insN x acc) l).length ≤ _
  rw [List.length_cons]
  omega
mutual
theorem refN_len : ∀ x : Nd, (refN x).length ≤ szN x
 | .mk op name n a kids => by
  have h := fun b acc => refL_len kids b acc
  rw [refN, szN]
  have := h (if op = [101, 120] ∨ op = [97, 108, 108] then some name else none) (if op = [118, 97, 114] ∨ op = [105, 115] then [name] else [])
  have h2 : (if op = [118, 97, 114] ∨ op = [105, 115] then [name] else ([] : List (List Nat))).length ≤ 1 := by split <;> simp
  omega
theorem refL_len : ∀ (l : List Nd) (b : Option (List Nat)) (acc : List (List Nat)), (refL l b acc).length ≤ acc.length + szL l
 | [], b, acc => by rw [refL, szL]; omega
 | k :: l, b, acc => by
  have h1 := refN_len k
  have h2 := refL_len l b (insAll acc ((refN k).filter fun x => !decide (b = some x)))
  have h3 := insAll_len ((refN k).filter fun x => !decide (b = some x)) acc
  have h4 := List.length_filter_le (fun x => !decide (b = some x)) (refN k)
  rw [refL, szL]
  omega
end
theorem refL_step {kids : List Nd} {i : Nat} {k : Nd} {b : Option (List Nat)} {acc : List (List Nat)} (h : kids[i]? = some k) : refL (kids.drop i) b acc = refL (kids.drop (i + 1)) b (insAll acc ((refN k).filter fun x => !decide (b = some x))) := by
 obtain ⟨h1, h2⟩ := List.getElem?_eq_some_iff.1 h
 rw [List.drop_eq_getElem_cons h1, refL, h2]

theorem flt_step {α : Type} {f : α → Bool} {l : List α} {j : Nat} {y : α} (h : l[j]? = some y) : (l.drop j).filter f = if f y then y :: (l.drop (j + 1)).filter f else (l.drop (j + 1)).filter f := by
 obtain ⟨h1, h2⟩ := List.getElem?_eq_some_iff.1 h
 rw [List.drop_eq_getElem_cons h1, List.filter_cons, h2]
theorem insAll_cons (acc : List (List Nat)) (y : List Nat) (l : List (List Nat)) : insAll acc (y :: l) = insAll (insN y acc) l := rfl
theorem insAll_nil (acc : List (List Nat)) : insAll acc [] = acc := rfl
theorem refN_mk (o s : List Nat) (z a : Int) (l : List Nd) : refN (.mk o s z a l) = refL l (if o = [101, 120] ∨ o = [97, 108, 108] then some s else none) (if o = [118, 97, 114] ∨ o = [105, 115] then [s] else []) := by rw [refN]
theorem ini_y {o s : List Nat} {n0 : Nat} {A : List (Nat × Nat × List AV)} {k : AV} (h : Acc n0 1 A k (txC (insN s []))) (ho : o = [118, 97, 114] ∨ o = [105, 115]) : Acc n0 1 A k (txC (if o = [118, 97, 114] ∨ o = [105, 115] then [s] else [])) := by rw [if_pos ho]; exact h
theorem ini_n {o s : List Nat} {n0 : Nat} (h1 : ¬ o = [118, 97, 114]) (h2 : ¬ o = [105, 115]) : Acc n0 1 [] .nils (txC (if o = [118, 97, 114] ∨ o = [105, 115] then [s] else [])) := by rw [if_neg (by rintro (h | h) <;> contradiction)]; exact .none
theorem refL_nil (b : Option (List Nat)) (acc : List (List Nat)) : refL [] b acc = acc := by rw [refL]

theorem rNames_ev (x : Nd) : ∀ (st : St) (cs : List AV), Fresh st → RdN st.h.get x cs → szN x ≤ 100000 → ∃ v st', Ev Tryd.prog envD 24 [.agg cs] st v st' ∧ ∃ ks, v = ks ∧ NewR st st' 1 ks (txC (refN x)) ∧ Qt st st' := by
 refine nd_rec (M := fun x => ∀ (st : St) (cs : List AV), Fresh st → RdN st.h.get x cs → szN x ≤ 100000 → ∃ v st', Ev Tryd.prog envD 24 [.agg cs] st v st' ∧ ∃ ks, v = ks ∧ NewR st st' 1 ks (txC (refN x)) ∧ Qt st st') (fun o s z a l ih => ?_) x
 intro st cs hf hr hsz
 have hr0 := hr
 obtain ⟨kk, ls, rfl, hK, hb⟩ := hr.open5
 have hln := hK.ln
 have hbn := hK.bnd
 rw [szN] at hsz
 refine J8 rfl Tryd.func24 rfl Tryd.ntmps24 rfl (by decide) (by simp) fun T hT => ?_
 have K : KnT [(0, _)] T := (.cons (hT 0) .nil)
 have M := Mem.start hf
 refine Qg <| Qa ?_
 refine Uf K M rfl (Qf rfl (Qf rfl (Qf rfl (Qf rfl (Qf hK.cell Jc))))) (by decide) fun c1 _ _ K M => ?_
 refine o1 K (Qb rfl) rfl fun _ K => Qd ?_
 show W _ _ _ _ _ _ _
 refine Qg <| Qa <| o1 K (Qb rfl) rfl fun _ K => Qd ?_
 show W _ _ _ _ _ _ _
 refine w_cut (J := fun T st9 => ∃ (k0 : AV) (A0 : List (Nat × Nat × List AV)), KnT [(1, .ptr c1 0 0), (2, .nils), (3, k0)] T ∧ Mem st.h.get st.n [] st9 ((c1, 0, [.str o, .str s, .int .i64 z, .int .i64 a, kk]) :: (A0 ++ [])) ∧ Acc st.n 1 A0 k0 (txC (if o = [118, 97, 114] ∨ o = [105, 115] then [s] else []))) ?_ (fun T st9 hJ => ?_)
 ·refine Qg <| Qa <| o1 K (Qe Jb rfl) rfl fun _ K => o1 K (Qh rfl (M.load (k := 0) rfl (Qk Qr rfl))) rfl fun _ K => o1 K (Jq (b := [118, 97, 114]) rfl rfl) rfl fun _ K => ?_
  refine oB K (Qc rfl) rfl fun b10 _ e10 K => ?_
  cases b10
  ·replace e10 := of_decide_eq_false e10
   refine og K rfl rfl (Qe Jb rfl) rfl fun _ K => og K rfl rfl (Qh rfl (M.load (k := 0) rfl (Qk Qr rfl))) rfl fun _ K => og K rfl rfl (Jq (b := [105, 115]) rfl rfl) rfl fun _ K => o1 K (Qj rfl rfl rfl) rfl fun _ K => Qd ?_
   show W _ _ _ _ _ _ _
   refine Qq (K.opd rfl) (fun h14 => ?_) (fun h14 => ?_)
   ·have hb14 := h14
    replace h14 := of_decide_eq_true h14
    refine Qa <| o1 K (Qc rfl) rfl fun _ K => o1 K (Qe Q9 rfl) rfl fun _ K => o1 K (Qh rfl (M.load (k := 0) rfl (Qk Qr rfl))) rfl fun _ K => ?_
    obtain ⟨v18, st18, ev18, ks18, rfl, hor18, q18⟩ := txAdd_ev M.fresh (bl := []) (RdR.nil _ _ _) s (.inl ⟨rfl, rfl⟩ : NilOr .nils true) (by first | decide | omega)
    refine o1 K (Qn rfl ev18) rfl fun _ K => ?_
    obtain ⟨A18, hA18, M⟩ := Mem.callAdd (L := [(c1, 0, [.str o, .str s, .int .i64 z, .int .i64 a, kk])]) (A := []) (B := []) (Mem.cast (M := [(c1, 0, [.str o, .str s, .int .i64 z, .int .i64 a, kk])]) (M' := [(c1, 0, [.str o, .str s, .int .i64 z, .int .i64 a, kk])] ++ (([] : List (Nat × Nat × List AV)) ++ [])) M (by simp only [List.append_assoc, List.cons_append, List.nil_append, List.append_nil, List.set_cons_zero, List.set_cons_succ])) .none q18 hor18
    replace M := Mem.cast (M' := ((c1, 0, [.str o, .str s, .int .i64 z, .int .i64 a, kk]) :: (A18 ++ []))) M (by simp only [List.append_assoc, List.cons_append, List.nil_append, List.append_nil, List.set_cons_zero, List.set_cons_succ])
    refine o1 K (Qb rfl) rfl fun _ K => Qd ?_
    exact ⟨v18, A18, (.cons (K _ _ rfl) (.cons (K _ _ rfl) (.cons (K _ _ rfl) .nil))), M.less (.refl _), (by first | exact ini_y hA18 (by first | exact .inl (by assumption) | exact .inr (by assumption)) | exact ini_n (by assumption) (by assumption))⟩
   have hb14 := h14
   replace h14 := of_decide_eq_false h14
   refine Qz ?_
   exact ⟨.nils, [], (.cons (K _ _ rfl) (.cons (K _ _ rfl) (.cons (K _ _ rfl) .nil))), M.less (.refl _), (by first | exact ini_y hA18 (by first | exact .inl (by assumption) | exact .inr (by assumption)) | exact ini_n (by assumption) (by assumption))⟩
  replace e10 := of_decide_eq_true e10
  refine gn K rfl rfl rfl rfl fun _ K => gn K rfl rfl rfl rfl fun _ K => gn K rfl rfl rfl rfl fun _ K => o1 K (Qj rfl rfl rfl) rfl fun _ K => Qd ?_
  show W _ _ _ _ _ _ _
  refine Qq (t := true) (K.opd rfl) (fun _ => ?_) (fun h => by cases h)
  refine Qa <| o1 K (Qc rfl) rfl fun _ K => o1 K (Qe Q9 rfl) rfl fun _ K => o1 K (Qh rfl (M.load (k := 0) rfl (Qk Qr rfl))) rfl fun _ K => ?_
  obtain ⟨v18, st18, ev18, ks18, rfl, hor18, q18⟩ := txAdd_ev M.fresh (bl := []) (RdR.nil _ _ _) s (.inl ⟨rfl, rfl⟩ : NilOr .nils true) (by first | decide | omega)
  refine o1 K (Qn rfl ev18) rfl fun _ K => ?_
  obtain ⟨A18, hA18, M⟩ := Mem.callAdd (L := [(c1, 0, [.str o, .str s, .int .i64 z, .int .i64 a, kk])]) (A := []) (B := []) (Mem.cast (M := [(c1, 0, [.str o, .str s, .int .i64 z, .int .i64 a, kk])]) (M' := [(c1, 0, [.str o, .str s, .int .i64 z, .int .i64 a, kk])] ++ (([] : List (Nat × Nat × List AV)) ++ [])) M (by simp only [List.append_assoc, List.cons_append, List.nil_append, List.append_nil, List.set_cons_zero, List.set_cons_succ])) .none q18 hor18
  replace M := Mem.cast (M' := ((c1, 0, [.str o, .str s, .int .i64 z, .int .i64 a, kk]) :: (A18 ++ []))) M (by simp only [List.append_assoc, List.cons_append, List.nil_append, List.append_nil, List.set_cons_zero, List.set_cons_succ])
  refine o1 K (Qb rfl) rfl fun _ K => Qd ?_
  exact ⟨v18, A18, (.cons (K _ _ rfl) (.cons (K _ _ rfl) (.cons (K _ _ rfl) .nil))), M.less (.refl _), (by first | exact ini_y hA18 (by first | exact .inl (by assumption) | exact .inr (by assumption)) | exact ini_n (by assumption) (by assumption))⟩
 obtain ⟨k0, A0, K, M, hA0⟩ := hJ
 have hini : ((if o = [118, 97, 114] ∨ o = [105, 115] then [s] else []) : List (List Nat)).length ≤ 1 := by split <;> simp
 refine Qg <| Qg <| Qa <| o1 K (Qb rfl) rfl fun _ K => Qd ?_
 show W _ _ _ _ _ _ _
 refine Q6 ?_
 refine w_loop (fun mm1 T st9 => ∃ (i : Nat) (nl : List (List Nat)) (ks : AV) (A : List (Nat × Nat × List AV)), mm1 = l.length - i ∧ KnT [(1, .ptr c1 0 0), (2, .nils), (3, ks), (4, .int .i64 (((i : Nat) : Int)))] T ∧ Mem st.h.get st.n [] st9 ((c1, 0, [.str o, .str s, .int .i64 z, .int .i64 a, kk]) :: (A ++ [])) ∧ Acc st.n 1 A ks (txC nl) ∧ i ≤ l.length ∧ refL l (if o = [101, 120] ∨ o = [97, 108, 108] then some s else none) (if o = [118, 97, 114] ∨ o = [105, 115] then [s] else []) = refL (l.drop i) (if o = [101, 120] ∨ o = [97, 108, 108] then some s else none) nl ∧ nl.length + szL (l.drop i) ≤ 100000) (fun mm1 T st9 hI => ?_) _ _ _ ⟨0, (if o = [118, 97, 114] ∨ o = [105, 115] then [s] else []), k0, A0, rfl, (.cons (K _ _ rfl) (.cons (K _ _ rfl) (.cons (K _ _ rfl) (.cons (K _ _ rfl) .nil)))), M.less (.refl _), hA0, (Nat.zero_le _), rfl, (by rw [List.drop_zero]; omega)⟩
 obtain ⟨i, nl, ks, A, rfl, K, M, hA, hi, hinv, hbd⟩ := hI
 refine Qg <| Qg <| Qa <| o1 K (Qc rfl) rfl fun _ K => o1 K (Qe Q3 rfl) rfl fun _ K => o1 K (Qh rfl (M.load (k := 0) rfl (Qk Qy rfl))) rfl fun _ K => o1 K (Jm Jg rfl rfl hK.len) rfl fun _ K => o1 K (os_lss rfl rfl) rfl fun _ K => Qd ?_
 show W _ _ _ _ _ _ _
 refine Qq (K.opd rfl) (fun h23 => ?_) (fun h23 => ?_)
 ·have hb23 := h23
  replace h23 := of_decide_eq_true h23
  refine Qz ?_
  show W _ _ _ _ _ _ _
  refine Qg <| Q6 <| Qg <| Qa <| o1 K (Qe Q3 rfl) rfl fun _ K => o1 K (Qh rfl (M.load (k := 0) rfl (Qk Qy rfl))) rfl fun _ K => o1 K (Qc rfl) rfl fun _ K => ?_
  obtain ⟨⟨o29, s29, z29, a29, l29⟩, hi29⟩ : ∃ k, l[i]? = some k := ⟨_, List.getElem?_eq_getElem (by first | omega | (have := bare_len (m := 1) (l := l) (by assumption); omega) | (have := bare_len (m := 2) (l := l) (by assumption); omega) | (have := Je (m := 1) (l := l) (by assumption); omega))⟩
  have hm29 := kids_mem hi29
  obtain ⟨_, hc29, hn29⟩ := hK.at_ _ _ hi29
  have hp29 := hn29
  obtain ⟨kk29, ls29, rfl, hK29, hb29⟩ := hp29.open5
  obtain ⟨x29, m29, f29, q29, _, la29, lo29, lp29⟩ := (hK.r.mem M (by simp)).load (i := i) (cs := _) hc29
  refine o1 K (Qu (j := i) Jk (congrArg some q29) rfl (by rw [hK.ln]; first | omega | (have := bare_len (m := 1) (l := l) (by assumption); omega) | (have := bare_len (m := 2) (l := l) (by assumption); omega) | (have := Je (m := 1) (l := l) (by assumption); omega))) rfl fun _ K => o1 K (Qh rfl (la29 _ Qi)) rfl fun _ K => ?_
  have hkk := szL_mem hm29
  have hst := szL_step hi29
  have hrl := refN_len (.mk o29 s29 z29 a29 l29)
  obtain ⟨v31, st31, ev31, ks31, rfl, nr31, q31⟩ := ih _ hm29 _ _ M.fresh (hn29.mono M.rows) (by omega)
  refine o1 K (Qn rfl ev31) rfl fun _ K => ?_
  obtain ⟨A31, hA31, M⟩ := M.callAcc q31 nr31
  replace M := Mem.cast (M' := ((c1, 0, [.str o, .str s, .int .i64 z, .int .i64 a, kk]) :: (A ++ (A31 ++ [])))) M (by simp only [List.append_assoc, List.cons_append, List.nil_append, List.append_nil, List.set_cons_zero, List.set_cons_succ])
  refine o1 K (Qb rfl) rfl fun _ K => Qd ?_
  show W _ _ _ _ _ _ _
  refine Qg <| Qa <| o1 K (Qb rfl) rfl fun _ K => Qd ?_
  show W _ _ _ _ _ _ _
  refine Q6 ?_
  refine w_loop (fun mm2 T st9 => ∃ (j : Nat) (nl2 : List (List Nat)) (ks2 : AV) (A2 : List (Nat × Nat × List AV)), mm2 = (refN (.mk o29 s29 z29 a29 l29)).length - j ∧ KnT [(1, .ptr c1 0 0), (2, .nils), (3, ks2), (4, .int .i64 (((i : Nat) : Int))), (5, v31), (6, .int .i64 (((j : Nat) : Int)))] T ∧ Mem st.h.get st.n [] st9 ((c1, 0, [.str o, .str s, .int .i64 z, .int .i64 a, kk]) :: (A2 ++ (A31 ++ []))) ∧ Acc st.n 1 A2 ks2 (txC nl2) ∧ j ≤ (refN (.mk o29 s29 z29 a29 l29)).length ∧ insAll nl ((refN (.mk o29 s29 z29 a29 l29)).filter (fun x => !decide ((if o = [101, 120] ∨ o = [97, 108, 108] then some s else none) = some x))) = insAll nl2 (((refN (.mk o29 s29 z29 a29 l29)).drop j).filter (fun x => !decide ((if o = [101, 120] ∨ o = [97, 108, 108] then some s else none) = some x))) ∧ nl2.length + ((refN (.mk o29 s29 z29 a29 l29)).length - j) + szL (l.drop (i + 1)) ≤ 100000) (fun mm2 T st9 hI => ?_) _ _ _ ⟨0, nl, ks, A, rfl, (.cons (K _ _ rfl) (.cons (K _ _ rfl) (.cons (K _ _ rfl) (.cons (K _ _ rfl) (.cons (K _ _ rfl) (.cons (K _ _ rfl) .nil)))))), M.less (.refl _), hA, (Nat.zero_le _), rfl, (by omega)⟩
  obtain ⟨j, nl2, ks2, A2, rfl, K, M, hA2, hj, hinv2, hbd2⟩ := hI
  refine Qg <| Qg <| Qa <| o1 K (Qc rfl) rfl fun _ K => o1 K (Qc rfl) rfl fun _ K => o1 K (Jm Jv rfl rfl (hA31.len.trans (congrArg some (Qw _)))) rfl fun _ K => o1 K (os_lss rfl rfl) rfl fun _ K => Qd ?_
  show W _ _ _ _ _ _ _
  refine Qq (K.opd rfl) (fun h35 => ?_) (fun h35 => ?_)
  ·have hb35 := h35
   replace h35 := of_decide_eq_true h35
   refine Qz ?_
   show W _ _ _ _ _ _ _
   refine Qg <| Q6 <| Qg ?_
   refine w_drawI (l := [(0, 0), (1, 0), (2, 0), (3, 0), (4, 0), (5, 0), (6, 0), (7, 0), (8, 0), (9, 0), (10, 0), (11, 0), (12, 0), (13, 0), (14, 0), (15, 0), (16, 0)]) (by kernel_rfl) ?_
   refine d1 rfl K (Qe Jb rfl) rfl rfl fun _ K => d1 rfl K (Qh rfl (M.load (k := 0) rfl (Qk Qr rfl))) rfl rfl fun _ K => d1 rfl K (os_neS (b := [101, 120]) rfl rfl) rfl rfl fun _ K => ?_
   refine dB rfl K (Qc rfl) rfl rfl fun b41 _ e41 K => ?_
   cases b41
   ·replace e41 : (o = [101, 120]) := by simpa using e41
    refine dgn rfl K rfl rfl rfl rfl fun _ _ K => dgn rfl K rfl rfl rfl rfl fun _ _ K => dgn rfl K rfl rfl rfl rfl fun _ _ K => d1 rfl K (Qj rfl rfl rfl) rfl rfl fun _ K => d1 rfl K (Qc rfl) rfl rfl fun _ K => dg rfl K rfl rfl (Qc rfl) rfl rfl fun _ K => dg rfl K rfl rfl (Qc rfl) rfl rfl fun _ K => ?_
    obtain ⟨y49, hi49⟩ : ∃ x, (refN (.mk o29 s29 z29 a29 l29))[j]? = some x := ⟨_, List.getElem?_eq_getElem (by omega)⟩
    obtain ⟨x49, m49, f49, q49, _, la49, lo49, lp49⟩ := (Mem.accR (L := ((c1, 0, [.str o, .str s, .int .i64 z, .int .i64 a, kk]) :: (A2 ++ []))) (A := A31) (B := []) (Mem.cast (M := ((c1, 0, [.str o, .str s, .int .i64 z, .int .i64 a, kk]) :: (A2 ++ (A31 ++ [])))) (M' := ((c1, 0, [.str o, .str s, .int .i64 z, .int .i64 a, kk]) :: (A2 ++ [])) ++ (A31 ++ [])) M (by simp only [List.append_assoc, List.cons_append, List.nil_append, List.append_nil, List.set_cons_zero, List.set_cons_succ])) hA31).load (i := j) (cs := _) (txC_get hi49)
    refine dg rfl K rfl rfl (Qu (j := j) Ja (congrArg some q49) rfl (by rw [Qw]; omega)) rfl rfl fun _ K => dg rfl K rfl rfl (Qh rfl (lo49 _ 0 _ Qr rfl)) rfl rfl fun _ K => dg rfl K rfl rfl (Qe Q9 rfl) rfl rfl fun _ K => dg rfl K rfl rfl (Qh rfl (M.load (k := 0) rfl (Qk Qr rfl))) rfl rfl fun _ K => dg rfl K rfl rfl (os_neS rfl rfl) rfl rfl fun _ K => d1 rfl K (Qj rfl rfl rfl) rfl rfl fun _ K => wd_nil ?_
    show W _ _ _ _ _ _ _
    refine Qq (K.opd rfl) (fun h54 => ?_) (fun h54 => ?_)
    ·have hb54 := h54
     replace h54 : ¬ (y49 = s) := by simpa using h54
     refine Qa <| o1 K (Qc rfl) rfl fun _ K => o1 K (Qc rfl) rfl fun _ K => o1 K (Qc rfl) rfl fun _ K => ?_
     obtain ⟨y58, hi58⟩ : ∃ x, (refN (.mk o29 s29 z29 a29 l29))[j]? = some x := ⟨_, List.getElem?_eq_getElem (by omega)⟩
     obtain ⟨x58, m58, f58, q58, _, la58, lo58, lp58⟩ := (Mem.accR (L := ((c1, 0, [.str o, .str s, .int .i64 z, .int .i64 a, kk]) :: (A2 ++ []))) (A := A31) (B := []) (Mem.cast (M := ((c1, 0, [.str o, .str s, .int .i64 z, .int .i64 a, kk]) :: (A2 ++ (A31 ++ [])))) (M' := ((c1, 0, [.str o, .str s, .int .i64 z, .int .i64 a, kk]) :: (A2 ++ [])) ++ (A31 ++ [])) M (by simp only [List.append_assoc, List.cons_append, List.nil_append, List.append_nil, List.set_cons_zero, List.set_cons_succ])) hA31).load (i := j) (cs := _) (txC_get hi58)
     refine o1 K (Qu (j := j) Ja (congrArg some q58) rfl (by rw [Qw]; omega)) rfl fun _ K => o1 K (Qh rfl (lo58 _ 0 _ Qr rfl)) rfl fun _ K => ?_
     obtain ⟨nb60, hno60⟩ := hA2.nilOr
     obtain ⟨v60, st60, ev60, ks60, rfl, hor60, q60⟩ := txAdd_ev M.fresh (bl := nl2) (Mem.accR (L := [(c1, 0, [.str o, .str s, .int .i64 z, .int .i64 a, kk])]) (A := A2) (B := (A31 ++ [])) M hA2) y58 hno60 (by first | decide | omega)
     refine o1 K (Qn rfl ev60) rfl fun _ K => ?_
     obtain ⟨A60, hA60, M⟩ := Mem.callAdd (L := [(c1, 0, [.str o, .str s, .int .i64 z, .int .i64 a, kk])]) (A := A2) (B := (A31 ++ [])) M hA2 q60 hor60
     replace M := Mem.cast (M' := ((c1, 0, [.str o, .str s, .int .i64 z, .int .i64 a, kk]) :: (A60 ++ (A31 ++ [])))) M (by simp only [List.append_assoc, List.cons_append, List.nil_append, List.append_nil, List.set_cons_zero, List.set_cons_succ])
     refine o1 K (Qb rfl) rfl fun _ K => Qd ?_
     show W _ _ _ _ _ _ _
     refine Qa <| o1 K (Qc rfl) rfl fun _ K => o1 K (Jj rfl rfl (by omega) (by omega)) rfl fun _ K => o1 K (Qb rfl) rfl fun _ K => Qd ?_
     exact ⟨_, (by omega), j + 1, insN y58 nl2, v60, A60, rfl, (.cons (K _ _ rfl) (.cons (K _ _ rfl) (.cons (K _ _ rfl) (.cons (K _ _ rfl) (.cons (K _ _ rfl) (.cons (K _ _ rfl) .nil)))))), M.less (.refl _), (by assumption), (by omega), (by first | (rw [hinv2, flt_step hi58, if_pos (by first | (simp_all; done) | (simp_all; exact fun e => h54 e.symm)), insAll_cons]; done) | (rw [hinv2, flt_step hi49, if_neg (by simp_all)]; done)), (by first | (have hil := insN_len y58 nl2; omega) | omega)⟩
    have hb54 := h54
    replace h54 : (y49 = s) := by simpa using h54
    refine Qz ?_
    show W _ _ _ _ _ _ _
    refine Qa <| o1 K (Qc rfl) rfl fun _ K => o1 K (Jj rfl rfl (by omega) (by omega)) rfl fun _ K => o1 K (Qb rfl) rfl fun _ K => Qd ?_
    exact ⟨_, (by omega), j + 1, nl2, ks2, A2, rfl, (.cons (K _ _ rfl) (.cons (K _ _ rfl) (.cons (K _ _ rfl) (.cons (K _ _ rfl) (.cons (K _ _ rfl) (.cons (K _ _ rfl) .nil)))))), M.less (.refl _), (by assumption), (by omega), (by first | (rw [hinv2, flt_step hi58, if_pos (by first | (simp_all; done) | (simp_all; exact fun e => h54 e.symm)), insAll_cons]; done) | (rw [hinv2, flt_step hi49, if_neg (by simp_all)]; done)), (by first | (have hil := insN_len y58 nl2; omega) | omega)⟩
   replace e41 : ¬ (o = [101, 120]) := by simpa using e41
   refine dg rfl K rfl rfl (Qe Jb rfl) rfl rfl fun _ K => dg rfl K rfl rfl (Qh rfl (M.load (k := 0) rfl (Qk Qr rfl))) rfl rfl fun _ K => dg rfl K rfl rfl (os_neS (b := [97, 108, 108]) rfl rfl) rfl rfl fun _ K => d1 rfl K (Qj rfl rfl rfl) rfl rfl fun _ K => ?_
   refine dB rfl K (Qc rfl) rfl rfl fun b46 _ e46 K => ?_
   cases b46
   ·replace e46 : (o = [97, 108, 108]) := by simpa using e46
    refine dg rfl K rfl rfl (Qc rfl) rfl rfl fun _ K => dg rfl K rfl rfl (Qc rfl) rfl rfl fun _ K => ?_
    obtain ⟨y49, hi49⟩ : ∃ x, (refN (.mk o29 s29 z29 a29 l29))[j]? = some x := ⟨_, List.getElem?_eq_getElem (by omega)⟩
    obtain ⟨x49, m49, f49, q49, _, la49, lo49, lp49⟩ := (Mem.accR (L := ((c1, 0, [.str o, .str s, .int .i64 z, .int .i64 a, kk]) :: (A2 ++ []))) (A := A31) (B := []) (Mem.cast (M := ((c1, 0, [.str o, .str s, .int .i64 z, .int .i64 a, kk]) :: (A2 ++ (A31 ++ [])))) (M' := ((c1, 0, [.str o, .str s, .int .i64 z, .int .i64 a, kk]) :: (A2 ++ [])) ++ (A31 ++ [])) M (by simp only [List.append_assoc, List.cons_append, List.nil_append, List.append_nil, List.set_cons_zero, List.set_cons_succ])) hA31).load (i := j) (cs := _) (txC_get hi49)
    refine dg rfl K rfl rfl (Qu (j := j) Ja (congrArg some q49) rfl (by rw [Qw]; omega)) rfl rfl fun _ K => dg rfl K rfl rfl (Qh rfl (lo49 _ 0 _ Qr rfl)) rfl rfl fun _ K => dg rfl K rfl rfl (Qe Q9 rfl) rfl rfl fun _ K => dg rfl K rfl rfl (Qh rfl (M.load (k := 0) rfl (Qk Qr rfl))) rfl rfl fun _ K => dg rfl K rfl rfl (os_neS rfl rfl) rfl rfl fun _ K => d1 rfl K (Qj rfl rfl rfl) rfl rfl fun _ K => wd_nil ?_
    show W _ _ _ _ _ _ _
    refine Qq (K.opd rfl) (fun h54 => ?_) (fun h54 => ?_)
    ·have hb54 := h54
     replace h54 : ¬ (y49 = s) := by simpa using h54
     refine Qa <| o1 K (Qc rfl) rfl fun _ K => o1 K (Qc rfl) rfl fun _ K => o1 K (Qc rfl) rfl fun _ K => ?_
     obtain ⟨y58, hi58⟩ : ∃ x, (refN (.mk o29 s29 z29 a29 l29))[j]? = some x := ⟨_, List.getElem?_eq_getElem (by omega)⟩
     obtain ⟨x58, m58, f58, q58, _, la58, lo58, lp58⟩ := (Mem.accR (L := ((c1, 0, [.str o, .str s, .int .i64 z, .int .i64 a, kk]) :: (A2 ++ []))) (A := A31) (B := []) (Mem.cast (M := ((c1, 0, [.str o, .str s, .int .i64 z, .int .i64 a, kk]) :: (A2 ++ (A31 ++ [])))) (M' := ((c1, 0, [.str o, .str s, .int .i64 z, .int .i64 a, kk]) :: (A2 ++ [])) ++ (A31 ++ [])) M (by simp only [List.append_assoc, List.cons_append, List.nil_append, List.append_nil, List.set_cons_zero, List.set_cons_succ])) hA31).load (i := j) (cs := _) (txC_get hi58)
     refine o1 K (Qu (j := j) Ja (congrArg some q58) rfl (by rw [Qw]; omega)) rfl fun _ K => o1 K (Qh rfl (lo58 _ 0 _ Qr rfl)) rfl fun _ K => ?_
     obtain ⟨nb60, hno60⟩ := hA2.nilOr
     obtain ⟨v60, st60, ev60, ks60, rfl, hor60, q60⟩ := txAdd_ev M.fresh (bl := nl2) (Mem.accR (L := [(c1, 0, [.str o, .str s, .int .i64 z, .int .i64 a, kk])]) (A := A2) (B := (A31 ++ [])) M hA2) y58 hno60 (by first | decide | omega)
     refine o1 K (Qn rfl ev60) rfl fun _ K => ?_
     obtain ⟨A60, hA60, M⟩ := Mem.callAdd (L := [(c1, 0, [.str o, .str s, .int .i64 z, .int .i64 a, kk])]) (A := A2) (B := (A31 ++ [])) M hA2 q60 hor60
     replace M := Mem.cast (M' := ((c1, 0, [.str o, .str s, .int .i64 z, .int .i64 a, kk]) :: (A60 ++ (A31 ++ [])))) M (by simp only [List.append_assoc, List.cons_append, List.nil_append, List.append_nil, List.set_cons_zero, List.set_cons_succ])
     refine o1 K (Qb rfl) rfl fun _ K => Qd ?_
     show W _ _ _ _ _ _ _
     refine Qa <| o1 K (Qc rfl) rfl fun _ K => o1 K (Jj rfl rfl (by omega) (by omega)) rfl fun _ K => o1 K (Qb rfl) rfl fun _ K => Qd ?_
     exact ⟨_, (by omega), j + 1, insN y58 nl2, v60, A60, rfl, (.cons (K _ _ rfl) (.cons (K _ _ rfl) (.cons (K _ _ rfl) (.cons (K _ _ rfl) (.cons (K _ _ rfl) (.cons (K _ _ rfl) .nil)))))), M.less (.refl _), (by assumption), (by omega), (by first | (rw [hinv2, flt_step hi58, if_pos (by first | (simp_all; done) | (simp_all; exact fun e => h54 e.symm)), insAll_cons]; done) | (rw [hinv2, flt_step hi49, if_neg (by simp_all)]; done)), (by first | (have hil := insN_len y58 nl2; omega) | omega)⟩
    have hb54 := h54
    replace h54 : (y49 = s) := by simpa using h54
    refine Qz ?_
    show W _ _ _ _ _ _ _
    refine Qa <| o1 K (Qc rfl) rfl fun _ K => o1 K (Jj rfl rfl (by omega) (by omega)) rfl fun _ K => o1 K (Qb rfl) rfl fun _ K => Qd ?_
    exact ⟨_, (by omega), j + 1, nl2, ks2, A2, rfl, (.cons (K _ _ rfl) (.cons (K _ _ rfl) (.cons (K _ _ rfl) (.cons (K _ _ rfl) (.cons (K _ _ rfl) (.cons (K _ _ rfl) .nil)))))), M.less (.refl _), (by assumption), (by omega), (by first | (rw [hinv2, flt_step hi58, if_pos (by first | (simp_all; done) | (simp_all; exact fun e => h54 e.symm)), insAll_cons]; done) | (rw [hinv2, flt_step hi49, if_neg (by simp_all)]; done)), (by first | (have hil := insN_len y58 nl2; omega) | omega)⟩
   replace e46 : ¬ (o = [97, 108, 108]) := by simpa using e46
   refine dgn rfl K rfl rfl rfl rfl fun _ _ K => dgn rfl K rfl rfl rfl rfl fun _ _ K => dgn rfl K rfl rfl rfl rfl fun _ _ K => dgn rfl K rfl rfl rfl rfl fun _ _ K => dgn rfl K rfl rfl rfl rfl fun _ _ K => dgn rfl K rfl rfl rfl rfl fun _ _ K => dgn rfl K rfl rfl rfl rfl fun _ _ K => d1 rfl K (Qj rfl rfl rfl) rfl rfl fun _ K => wd_nil ?_
   show W _ _ _ _ _ _ _
   refine Qq (t := true) (K.opd rfl) (fun _ => ?_) (fun h => by cases h)
   refine Qa <| o1 K (Qc rfl) rfl fun _ K => o1 K (Qc rfl) rfl fun _ K => o1 K (Qc rfl) rfl fun _ K => ?_
   obtain ⟨y58, hi58⟩ : ∃ x, (refN (.mk o29 s29 z29 a29 l29))[j]? = some x := ⟨_, List.getElem?_eq_getElem (by omega)⟩
   obtain ⟨x58, m58, f58, q58, _, la58, lo58, lp58⟩ := (Mem.accR (L := ((c1, 0, [.str o, .str s, .int .i64 z, .int .i64 a, kk]) :: (A2 ++ []))) (A := A31) (B := []) (Mem.cast (M := ((c1, 0, [.str o, .str s, .int .i64 z, .int .i64 a, kk]) :: (A2 ++ (A31 ++ [])))) (M' := ((c1, 0, [.str o, .str s, .int .i64 z, .int .i64 a, kk]) :: (A2 ++ [])) ++ (A31 ++ [])) M (by simp only [List.append_assoc, List.cons_append, List.nil_append, List.append_nil, List.set_cons_zero, List.set_cons_succ])) hA31).load (i := j) (cs := _) (txC_get hi58)
   refine o1 K (Qu (j := j) Ja (congrArg some q58) rfl (by rw [Qw]; omega)) rfl fun _ K => o1 K (Qh rfl (lo58 _ 0 _ Qr rfl)) rfl fun _ K => ?_
   obtain ⟨nb60, hno60⟩ := hA2.nilOr
   obtain ⟨v60, st60, ev60, ks60, rfl, hor60, q60⟩ := txAdd_ev M.fresh (bl := nl2) (Mem.accR (L := [(c1, 0, [.str o, .str s, .int .i64 z, .int .i64 a, kk])]) (A := A2) (B := (A31 ++ [])) M hA2) y58 hno60 (by first | decide | omega)
   refine o1 K (Qn rfl ev60) rfl fun _ K => ?_
   obtain ⟨A60, hA60, M⟩ := Mem.callAdd (L := [(c1, 0, [.str o, .str s, .int .i64 z, .int .i64 a, kk])]) (A := A2) (B := (A31 ++ [])) M hA2 q60 hor60
   replace M := Mem.cast (M' := ((c1, 0, [.str o, .str s, .int .i64 z, .int .i64 a, kk]) :: (A60 ++ (A31 ++ [])))) M (by simp only [List.append_assoc, List.cons_append, List.nil_append, List.append_nil, List.set_cons_zero, List.set_cons_succ])
   refine o1 K (Qb rfl) rfl fun _ K => Qd ?_
   show W _ _ _ _ _ _ _
   refine Qa <| o1 K (Qc rfl) rfl fun _ K => o1 K (Jj rfl rfl (by omega) (by omega)) rfl fun _ K => o1 K (Qb rfl) rfl fun _ K => Qd ?_
   exact ⟨_, (by omega), j + 1, insN y58 nl2, v60, A60, rfl, (.cons (K _ _ rfl) (.cons (K _ _ rfl) (.cons (K _ _ rfl) (.cons (K _ _ rfl) (.cons (K _ _ rfl) (.cons (K _ _ rfl) .nil)))))), M.less (.refl _), (by assumption), (by omega), (by first | (rw [hinv2, flt_step hi58, if_pos (by first | (simp_all; done) | (simp_all; exact fun e => h54 e.symm)), insAll_cons]; done) | (rw [hinv2, flt_step hi49, if_neg (by simp_all)]; done)), (by first | (have hil := insN_len y58 nl2; omega) | omega)⟩
  have hb35 := h35
  replace h35 := of_decide_eq_false h35
  refine J6 ?_
  show W _ _ _ _ _ _ _
  refine Qa <| o1 K (Qc rfl) rfl fun _ K => o1 K (Jj rfl rfl (by omega) (by omega)) rfl fun _ K => o1 K (Qb rfl) rfl fun _ K => Qd ?_
  exact ⟨_, (by omega), i + 1, nl2, ks2, A2, rfl, (.cons (K _ _ rfl) (.cons (K _ _ rfl) (.cons (K _ _ rfl) (.cons (K _ _ rfl) .nil)))), M.less (.cons_cons _ (List.Sublist.append_left (List.nil_sublist _) _)), hA2, (by omega), (by rw [hinv, refL_step hi29, hinv2, Jf (l := refN (.mk o29 s29 z29 a29 l29)) (i := j) (by omega), List.filter_nil, insAll_nil]), (by omega)⟩
 have hb23 := h23
 replace h23 := of_decide_eq_false h23
 refine J6 ?_
 show W _ _ _ _ _ _ _
 refine Qg <| Qa <| o1 K (Qc rfl) rfl fun _ K => o1 K (Qb rfl) rfl fun _ K => Qd ?_
 show W _ _ _ _ _ _ _
 refine Qv ?_
 refine ⟨.inr rfl, _, (Qm (Qp K rfl)), ?_⟩
 refine ⟨_, rfl, ?_, M.qt⟩
 rw [refN_mk, hinv, Jf (by omega), refL_nil]
 exact Mem.newR (L := [(c1, 0, [.str o, .str s, .int .i64 z, .int .i64 a, kk])]) (A := A) (B := []) M hA
end Go.Proofs.YtmjnbdkjekdkgaaDoor
