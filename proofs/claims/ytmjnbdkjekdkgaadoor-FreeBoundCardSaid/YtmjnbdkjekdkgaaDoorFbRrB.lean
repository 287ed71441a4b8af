/-
  The reader of 'sibylref2': words, names, numbers.
-/
import Derived.Test.YtmjnbdkjekdkgaaDoorFbRrA
namespace Go.Proofs.YtmjnbdkjekdkgaaDoor
open Go Go.RowKit
set_option linter.unusedVariables false
set_option maxRecDepth 100000

theorem Mem.newc {h0 : Hp} {n0 : Nat} {st : St} {M : List (Nat × Nat × List AV)} (hM : Mem h0 n0 [] st M) {k c m : Nat} {l : List AV} (hk : M[k]? = some (c, m, l)) : n0 ≤ c := by
 rcases hM.own c m l (List.mem_of_getElem? hk) with h | h
 ·exact h
 ·cases h
theorem contains_step {α : Type} [BEq α] {l : List α} {i : Nat} {w t : α} (h : l[i]? = some w) : (l.drop i).contains t = (t == w || (l.drop (i + 1)).contains t) := by
 obtain ⟨h1, h2⟩ := List.getElem?_eq_some_iff.1 h
 rw [List.drop_eq_getElem_cons h1, List.contains_cons, h2]
theorem placeIn_eq {a b : Nat} {L : List (Nat × Nat)} {n : Nat} (h : n < L.length) : placeIn a L n = placeIn b L n := by
 obtain ⟨c, q, h1, _⟩ := rune_at h
 rw [placeIn_at h1, placeIn_at h1]
theorem fin_none {l : List Nat} : finOf (bytesOf l) none = l.length := Jg l
theorem rat0f {st : St} (hf : Fresh st) {g : Nat} {l : List Nat} {ks : AV} {L : List (Nat × Nat)} {bad : Option Nat} {n : Nat} (h : Rdr st.h.get g l ks L bad n) (hn : n < L.length) : ∃ v st', Ev Tryd.prog envD 82 [.ptr g 0 0, .int .i64 0] st v st' ∧ v = .int .i64 ((placeIn (finOf (bytesOf l) bad) L n : Nat) : Int) ∧ Qt st st' := by
 rw [placeIn_eq (b := l.length) hn]
 exact rat0 hf h
theorem dig_of {c : Nat} (h : classOf (c : Int) = 2) : digitB (c : Int) = true ∧ 48 ≤ c ∧ c ≤ 57 := by
 have h := classOf_two.1 h
 refine ⟨h, ?_⟩
 unfold digitB at h
 have h := of_decide_eq_true h
 omega
theorem num_step {cap a : Nat} {c q : Nat} {r : List (Nat × Nat)} (h : digitB (c : Int) = true) : numCap cap a ((c, q) :: r) = numCap cap (min (a * 10 + (c - 48)) cap) r := by rw [numCap, if_pos h]
theorem dig_step {c q : Nat} {r : List (Nat × Nat)} (h : digitB (c : Int) = true) : digN ((c, q) :: r) = digN r + 1 := by rw [digN, if_pos h]
theorem num_stop {cap a : Nat} {L : List (Nat × Nat)} {j : Nat} (h : classAt L j ≠ 2) : numCap cap a (L.drop j) = a ∧ digN (L.drop j) = 0 := by
 by_cases hj : j < L.length
 ·obtain ⟨c, q, h1, h2⟩ := rune_at hj
  rw [classAt_at h1] at h
  have hd : ¬ digitB (c : Int) = true := fun e => h (classOf_two.2 e)
  rw [h2, numCap, digN, if_neg hd, if_neg hd]
  exact ⟨rfl, rfl⟩
 ·rw [List.drop_eq_nil_of_le (by omega)]; exact ⟨rfl, rfl⟩
theorem digN_le : ∀ r : List (Nat × Nat), digN r ≤ r.length := by
 intro r
 induction r with
 | nil => exact Nat.le_refl _
 | cons x r ih => obtain ⟨c, a⟩ := x; rw [digN]; split <;> simp <;> omega

theorem rwords_ev {st : St} (hf : Fresh st) : ∃ v st', Ev Tryd.prog envD 148 [] st v st' ∧ NewR st st' 1 v (wordsN.map fun w => [.str w]) ∧ Qt st st' := by
 refine J5 rfl Tryd.func148 rfl Tryd.ntmps148 rfl (by decide) (by simp) fun T hT => ?_
 have K : KnT [] T := .nil
 have M := Mem.start hf
 refine Qh <| Qa <| o1 K (Qb rfl) rfl fun _ K => Qd ?_
 show W _ _ _ _ _ _ _
 refine Qh <| Qa ?_
 refine wr_bs K M Jv ze_string rfl rfl rfl rfl rfl fun c1 _ _ K M => ?_
 refine o1 K (Qb rfl) rfl fun _ K => Qd ?_
 show W _ _ _ _ _ _ _
 refine Qs ?_
 refine ⟨.inr rfl, _, (Qm (Qp K rfl)), ?_⟩
 exact ⟨M.newR (L := []) (A := [(c1, 0, _)]) (B := []) (Acc.own (ls := wordsN.map fun w => [.str w]) (M.newc (k := 0) rfl) (by simp) (by decide)), M.qt⟩

theorem rword_ev {st : St} (hf : Fresh st) (t : List Nat) : ∃ v st', Ev Tryd.prog envD 139 [.str t] st v st' ∧ v = .bool (wordsN.contains t) ∧ Qt st st' := by
 have hwl : (wordsN.map fun w => [AV.str w]).length = 17 := rfl
 have hwl0 : wordsN.length = 17 := rfl
 refine J5 rfl Tryd.func139 rfl Tryd.ntmps139 rfl (by decide) (by simp) fun T hT => ?_
 have K : KnT [(0, _)] T := (.cons (hT 0) .nil)
 have M := Mem.start hf
 refine Qh <| Qa <| o1 K (Qb rfl) rfl fun _ K => Qd ?_
 show W _ _ _ _ _ _ _
 refine Qh <| Qa ?_
 obtain ⟨v5, st5, ev5, nr5, q5⟩ := rwords_ev M.fresh
 refine o1 K (Qn rfl ev5) rfl fun _ K => ?_
 obtain ⟨A5, hA5, M⟩ := M.callAcc q5 nr5
 refine o1 K (Qb rfl) rfl fun _ K => Qd ?_
 show W _ _ _ _ _ _ _
 refine Qh <| Qh <| Qa <| o1 K (Qb rfl) rfl fun _ K => Qd ?_
 show W _ _ _ _ _ _ _
 refine Q5 ?_
 refine w_loop (fun mm1 T st9 => ∃ (i : Nat), mm1 = 17 - i ∧ KnT [(0, .str t), (3, v5), (4, .int .i64 (((i : Nat) : Int)))] T ∧ Mem st.h.get st.n [] st9 (A5 ++ []) ∧ i ≤ 17 ∧ wordsN.contains t = (wordsN.drop i).contains t) (fun mm1 T st9 hI => ?_) _ _ _ ⟨0, rfl, (.cons (K _ _ rfl) (.cons (K _ _ rfl) (.cons (K _ _ rfl) .nil))), M.less (.refl _), (by decide), rfl⟩
 obtain ⟨i, rfl, K, M, hi, hc⟩ := hI
 refine Qh <| Qh <| Qa <| o1 K (Qc rfl) rfl fun _ K => o1 K (Qc rfl) rfl fun _ K => o1 K (Jn un_S_string rfl rfl hA5.len) rfl fun _ K => o1 K (os_lss rfl rfl) rfl fun _ K => Qd ?_
 show W _ _ _ _ _ _ _
 refine Qr (K.opd rfl) (fun h9 => ?_) (fun h9 => ?_)
 ·replace h9 := of_decide_eq_true h9
  refine Q3 ?_
  show W _ _ _ _ _ _ _
  refine Qh <| Q5 <| Qh <| Qa <| o1 K (Qc rfl) rfl fun _ K => o1 K (Qc rfl) rfl fun _ K => ?_
  obtain ⟨w14, hw14⟩ : ∃ w, wordsN[i]? = some w := ⟨_, List.getElem?_eq_getElem (by rw [hwl0]; omega)⟩
  obtain ⟨x14, m14, f14, q14, _, la14, lo14, lp14⟩ := (M.accR (L := []) (A := A5) (B := []) hA5).load (i := i) (cs := _) (by rw [List.getElem?_map, hw14]; rfl)
  refine o1 K (Q0 el_S_string (congrArg some q14) rfl (by rw [hwl]; omega)) rfl fun _ K => o1 K (Qg rfl (lo14 _ 0 _ Qx rfl)) rfl fun _ K => o1 K (Qc rfl) rfl fun _ K => o1 K (Jo rfl rfl) rfl fun _ K => Qd ?_
  show W _ _ _ _ _ _ _
  refine Qr (K.opd rfl) (fun h17 => ?_) (fun h17 => ?_)
  ·replace h17 := of_decide_eq_true h17
   refine Qh <| Qa <| o1 K (Qb rfl) rfl fun _ K => Qd ?_
   show W _ _ _ _ _ _ _
   refine Qs ?_
   refine ⟨.inr rfl, _, (Qm (Qp K rfl)), ?_⟩
   exact ⟨by rw [hc, contains_step hw14, ← h17, beq_self_eq_true]; rfl, M.less (.refl _) |>.qt⟩
  ·replace h17 := of_decide_eq_false h17
   refine Q3 ?_
   show W _ _ _ _ _ _ _
   refine Qa <| o1 K (Qc rfl) rfl fun _ K => o1 K (Jm rfl rfl (by omega) (by omega)) rfl fun _ K => o1 K (Qb rfl) rfl fun _ K => Qd ?_
   exact ⟨_, (by omega), i + 1, rfl, (.cons (K _ _ rfl) (.cons (K _ _ rfl) (.cons (K _ _ rfl) .nil))), M.less (.refl _), (by omega), (by rw [hc, contains_step hw14, beq_false_of_ne (fun e => h17 e.symm)]; rfl)⟩
 ·replace h9 := of_decide_eq_false h9
  refine Uk ?_
  show W _ _ _ _ _ _ _
  refine Qh <| Qa <| o1 K (Qb rfl) rfl fun _ K => Qd ?_
  show W _ _ _ _ _ _ _
  refine Qs ?_
  refine ⟨.inr rfl, _, (Qm (Qp K rfl)), ?_⟩
  exact ⟨by rw [hc, List.drop_eq_nil_of_le (by omega)]; rfl, M.qt⟩

theorem rname_ev {st : St} (hf : Fresh st) {g : Nat} {l : List Nat} {ks : AV} {L : List (Nat × Nat)} {bad : Option Nat} {n : Nat} (h : Rdr st.h.get g l ks L bad n) (hn : n < L.length) (hc : classAt L n = 1) : ∃ v st', Ev Tryd.prog envD 114 [.ptr g 0 0] st v st' ∧ v = .tup [.agg [.int .i64 (if wordsN.contains ((l.drop (placeIn (finOf (bytesOf l) bad) L (n))).take (placeIn (finOf (bytesOf l) bad) L (n + moreN (L.drop n)) - placeIn (finOf (bytesOf l) bad) L (n))) then 3 else 1), .str ((l.drop (placeIn (finOf (bytesOf l) bad) L (n))).take (placeIn (finOf (bytesOf l) bad) L (n + moreN (L.drop n)) - placeIn (finOf (bytesOf l) bad) L (n))), .int .i64 0, .int .i64 ((placeIn (finOf (bytesOf l) bad) L (n) : Nat) : Int)], .bool (decide (((moreN (L.drop n) : Nat) : Int) ≤ 12))] ∧ Chg [g] st st' ∧ Rdr st'.h.get g l ks L bad (n + moreN (L.drop n)) := by
 have hrl := @run_len L
 have hfew := h.few
 have hle := h.le
 have hsz := h.size
 have hml := moreN_le (L.drop n)
 have hdl := digN_le (L.drop n)
 rw [List.length_drop] at hml hdl
 refine J5 rfl Tryd.func114 rfl Tryd.ntmps114 rfl (by decide) (by simp) fun T hT => ?_
 have K : KnT [(0, _)] T := (.cons (hT 0) .nil)
 have M := Mem.start1 hf h.row
 refine Qh <| Qa ?_
 refine Jy K M Ue (by decide) fun c2 _ _ K M => ?_
 refine o1 K (Qb rfl) rfl fun _ K => Qd ?_
 show W _ _ _ _ _ _ _
 refine Qh <| Qa <| o1 K (Qb rfl) rfl fun _ K => Qd ?_
 show W _ _ _ _ _ _ _
 refine w_cut (J := fun T st9 => KnT [(0, .ptr g 0 0), (2, .ptr c2 0 0), (3, .bool false), (4, .int .i64 ((((moreN (L.drop n)) : Nat) : Int)))] T ∧ Mem st.h.get st.n [g] st9 [(c2, 0, [.int .i64 0, .str [], .int .i64 0, .int .i64 0]), (g, 0, [.str l, ks, .int .i64 (badInt bad), .int .i64 (((n : Nat) : Int))])]) ?_ (fun T st9 hJ => ?_)
 · refine Q5 ?_
   refine w_loop (fun mm1 T st9 => ∃ (j : Nat), mm1 = moreN (L.drop n) - j ∧ KnT [(0, .ptr g 0 0), (2, .ptr c2 0 0), (3, .bool false), (4, .int .i64 (((j : Nat) : Int)))] T ∧ Mem st.h.get st.n [g] st9 [(c2, 0, [.int .i64 0, .str [], .int .i64 0, .int .i64 0]), (g, 0, [.str l, ks, .int .i64 (badInt bad), .int .i64 (((n : Nat) : Int))])] ∧ j + moreN (L.drop (n + j)) = moreN (L.drop n)) (fun mm1 T st9 hI => ?_) _ _ _ ⟨0, rfl, (.cons (K _ _ rfl) (.cons (K _ _ rfl) (.cons (K _ _ rfl) (.cons (K _ _ rfl) .nil)))), M.less (.refl _), (by rw [Nat.add_zero, Nat.zero_add])⟩
   obtain ⟨j, rfl, K, M, hj⟩ := hI
   refine Qh <| Qh <| Qa <| o1 K (Qc rfl) rfl fun _ K => o1 K (Qc rfl) rfl fun _ K => ?_
   obtain ⟨v9, st9, ev9, rfl, q9⟩ := rclass_ev M.fresh (h.next (M.row1 (k := 1) rfl) (h.run.mem M (by simp)) (by omega)) j (by omega)
   refine o1 K (Qn rfl ev9) rfl fun _ K => ?_
   replace M := M.quiet q9
   refine o1 K (os_eqI rfl rfl) rfl fun _ K => ?_
   refine oB K (Qc rfl) rfl fun b11 _ e11 K => ?_
   cases b11
   · replace e11 := of_decide_eq_false e11
     refine og K rfl rfl (Qc rfl) rfl fun _ K => og K rfl rfl (os_gtr rfl rfl) rfl fun _ K => ?_
     refine oGB K rfl rfl (Qc rfl) rfl fun b14 _ e14 K => ?_
     cases b14
     · replace e14 := of_decide_eq_false e14
       refine gn K rfl rfl rfl rfl fun _ K => gn K rfl rfl rfl rfl fun _ K => gn K rfl rfl rfl rfl fun _ K => gn K rfl rfl rfl rfl fun _ K => gn K rfl rfl rfl rfl fun _ K => ?_
       refine gnT K rfl rfl rfl fun _ K => ?_
       refine gnT K rfl rfl rfl fun _ K => ?_
       refine gnT K rfl rfl rfl fun _ K => ?_
       refine gn K rfl rfl rfl rfl fun _ K => og K rfl rfl (Qj rfl rfl rfl) rfl fun _ K => o1 K (Qj rfl rfl rfl) rfl fun _ K => Qd ?_
       show W _ _ _ _ _ _ _
       refine Qr (t := false) (K.opd rfl) (fun h => by cases h) (fun _ => ?_)
       refine Uk ?_
       have hm : moreN (L.drop (n + j)) = 0 := by
              first
                | exact moreC_no ‹_› ‹_› ‹_›
                | (exfalso; obtain rfl : j = 0 := by omega
                   exact absurd hc ‹_›)
       obtain rfl : j = moreN (L.drop n) := by omega
       exact ⟨(.cons (K _ _ rfl) (.cons (K _ _ rfl) (.cons (K _ _ rfl) (.cons (K _ _ rfl) .nil)))), M.less (.refl _)⟩
     · replace e14 := of_decide_eq_true e14
       refine og K rfl rfl (Qc rfl) rfl fun _ K => og K rfl rfl (Qc rfl) rfl fun _ K => ?_
       obtain ⟨v17, st17, ev17, rfl, q17⟩ := rclass_ev M.fresh (h.next (M.row1 (k := 1) rfl) (h.run.mem M (by simp)) (by omega)) j (by omega)
       refine og K rfl rfl (Qn rfl ev17) rfl fun _ K => ?_
       replace M := M.quiet q17
       refine og K rfl rfl (os_eqI rfl rfl) rfl fun _ K => ?_
       refine oGB K rfl rfl (Qc rfl) rfl fun b19 _ e19 K => ?_
       cases b19
       · replace e19 := of_decide_eq_false e19
         refine og K rfl rfl (Qc rfl) rfl fun _ K => og K rfl rfl (Qc rfl) rfl fun _ K => ?_
         obtain ⟨v22, st22, ev22, rfl, q22⟩ := ris_ev M.fresh (h.next (M.row1 (k := 1) rfl) (h.run.mem M (by simp)) (by omega)) j (by omega) 39
         refine og K rfl rfl (Qn rfl ev22) rfl fun _ K => ?_
         replace M := M.quiet q22
         refine og K rfl rfl (Qj rfl rfl rfl) rfl fun _ K => og K rfl rfl (Qj rfl rfl rfl) rfl fun _ K => o1 K (Qj rfl rfl rfl) rfl fun _ K => Qd ?_
         show W _ _ _ _ _ _ _
         refine Qr (K.opd rfl) (fun h25 => ?_) (fun h25 => ?_)
         · refine Q3 ?_
           show W _ _ _ _ _ _ _
           refine Q5 <| Qa <| o1 K (Qc rfl) rfl fun _ K => o1 K (Jm rfl rfl (by omega) (by omega)) rfl fun _ K => o1 K (Qb rfl) rfl fun _ K => Qd ?_
           have hm := moreC_yes (L := L) (j := n + j) (by first | exact .inl ‹_› | exact .inr (.inl ‹_›) | exact .inr (.inr ‹_›))
           exact ⟨_, (by omega), j + 1, rfl, (.cons (K _ _ rfl) (.cons (K _ _ rfl) (.cons (K _ _ rfl) (.cons (K _ _ rfl) .nil)))), M.less (.refl _), (by rw [← Nat.add_assoc]; omega)⟩
         · refine Uk ?_
           have hm : moreN (L.drop (n + j)) = 0 := by
              first
                | exact moreC_no ‹_› ‹_› ‹_›
                | (exfalso; obtain rfl : j = 0 := by omega
                   exact absurd hc ‹_›)
           obtain rfl : j = moreN (L.drop n) := by omega
           exact ⟨(.cons (K _ _ rfl) (.cons (K _ _ rfl) (.cons (K _ _ rfl) (.cons (K _ _ rfl) .nil)))), M.less (.refl _)⟩
       · replace e19 := of_decide_eq_true e19
         refine gn K rfl rfl rfl rfl fun _ K => gn K rfl rfl rfl rfl fun _ K => gn K rfl rfl rfl rfl fun _ K => og K rfl rfl (Qj rfl rfl rfl) rfl fun _ K => og K rfl rfl (Qj rfl rfl rfl) rfl fun _ K => o1 K (Qj rfl rfl rfl) rfl fun _ K => Qd ?_
         show W _ _ _ _ _ _ _
         refine Qr (t := true) (K.opd rfl) (fun _ => ?_) (fun h => by cases h)
         refine Q3 ?_
         show W _ _ _ _ _ _ _
         refine Q5 <| Qa <| o1 K (Qc rfl) rfl fun _ K => o1 K (Jm rfl rfl (by omega) (by omega)) rfl fun _ K => o1 K (Qb rfl) rfl fun _ K => Qd ?_
         have hm := moreC_yes (L := L) (j := n + j) (by first | exact .inl ‹_› | exact .inr (.inl ‹_›) | exact .inr (.inr ‹_›))
         exact ⟨_, (by omega), j + 1, rfl, (.cons (K _ _ rfl) (.cons (K _ _ rfl) (.cons (K _ _ rfl) (.cons (K _ _ rfl) .nil)))), M.less (.refl _), (by rw [← Nat.add_assoc]; omega)⟩
   · replace e11 := of_decide_eq_true e11
     refine gn K rfl rfl rfl rfl fun _ K => gn K rfl rfl rfl rfl fun _ K => gn K rfl rfl rfl rfl fun _ K => ?_
     refine gnT K rfl rfl rfl fun _ K => ?_
     refine gnT K rfl rfl rfl fun _ K => ?_
     refine gnT K rfl rfl rfl fun _ K => ?_
     refine gnT K rfl rfl rfl fun _ K => ?_
     refine gnT K rfl rfl rfl fun _ K => ?_
     refine gnT K rfl rfl rfl fun _ K => ?_
     refine gnT K rfl rfl rfl fun _ K => ?_
     refine gnT K rfl rfl rfl fun _ K => ?_
     refine gnT K rfl rfl rfl fun _ K => ?_
     refine gn K rfl rfl rfl rfl fun _ K => o1 K (Qj rfl rfl rfl) rfl fun _ K => Qd ?_
     show W _ _ _ _ _ _ _
     refine Qr (t := true) (K.opd rfl) (fun _ => ?_) (fun h => by cases h)
     refine Q3 ?_
     show W _ _ _ _ _ _ _
     refine Q5 <| Qa <| o1 K (Qc rfl) rfl fun _ K => o1 K (Jm rfl rfl (by omega) (by omega)) rfl fun _ K => o1 K (Qb rfl) rfl fun _ K => Qd ?_
     have hm := moreC_yes (L := L) (j := n + j) (by first | exact .inl ‹_› | exact .inr (.inl ‹_›) | exact .inr (.inr ‹_›))
     exact ⟨_, (by omega), j + 1, rfl, (.cons (K _ _ rfl) (.cons (K _ _ rfl) (.cons (K _ _ rfl) (.cons (K _ _ rfl) .nil)))), M.less (.refl _), (by rw [← Nat.add_assoc]; omega)⟩
 · obtain ⟨K, M⟩ := hJ
   refine Qh <| Qa <| o1 K (Qc rfl) rfl fun _ K => ?_
   obtain ⟨v29, st29, ev29, rfl, q29⟩ := rat0f M.fresh (h.next (M.row1 (k := 1) rfl) (h.run.mem M (by simp)) (by omega)) (by omega)
   refine o1 K (Qn rfl ev29) rfl fun _ K => ?_
   replace M := M.quiet q29
   refine o1 K (os_build st_api_Token rfl rfl) rfl fun _ K => ?_
   refine Jy K M Ue (by decide) fun c5 _ _ K M => ?_
   refine Qz (k := 0) K M rfl rfl rfl J1 rfl rfl rfl fun _ M => ?_
   refine Qd ?_
   show W _ _ _ _ _ _ _
   refine Qh <| Qa <| o1 K (Qc rfl) rfl fun _ K => o1 K (Qc rfl) rfl fun _ K => ?_
   obtain ⟨v33, st33, ev33, rfl, q33⟩ := rat_ev M.fresh (h.next (M.row1 (k := 2) rfl) (h.run.mem M (by simp)) (by omega)) ((moreN (L.drop n))) (by omega)
   refine o1 K (Qn rfl ev33) rfl fun _ K => ?_
   replace M := M.quiet q33
   refine o1 K (Qb rfl) rfl fun _ K => Qd ?_
   show W _ _ _ _ _ _ _
   refine w_cut (J := fun T st9 => ∃ (z : Int), KnT [(0, .ptr g 0 0), (2, .ptr c2 0 0), (3, .bool false), (4, .int .i64 ((((moreN (L.drop n)) : Nat) : Int))), (5, .ptr c5 0 0), (6, .int .i64 z)] T ∧ Mem st.h.get st.n [g] st9 [(c5, 0, [.int .i64 1, .str [], .int .i64 0, .int .i64 (((placeIn (finOf (bytesOf l) bad) L (n) : Nat) : Int))]), (c2, 0, [.int .i64 0, .str [], .int .i64 0, .int .i64 0]), (g, 0, [.str l, ks, .int .i64 (badInt bad), .int .i64 (((n : Nat) : Int))])] ∧ z = ((placeIn (finOf (bytesOf l) bad) L (n + moreN (L.drop n)) : Nat) : Int)) ?_ (fun T st9 hJ => ?_)
   · refine Qh ?_
     refine w_drawI (l := [(0, 0), (1, 0), (2, 0), (3, 0), (4, 0), (5, 0), (6, 0), (7, 0), (8, 0), (9, 0), (10, 0), (11, 0), (12, 0), (13, 0), (14, 0), (15, 0), (16, 0), (17, 0), (18, 0)]) (by kernel_rfl) ?_
     refine d1 rfl K (Qc rfl) rfl rfl fun _ K => d1 rfl K (Jz rfl rfl) rfl rfl fun _ K => d1 rfl K (Qe Qv rfl) rfl rfl fun _ K => d1 rfl K (Qg rfl (M.load (k := 2) rfl (Qk Ju rfl))) rfl rfl fun _ K => d1 rfl K (Qc rfl) rfl rfl fun _ K => d1 rfl K (Jm rfl rfl (by omega) (by omega)) rfl rfl fun _ K => d1 rfl K (Qc rfl) rfl rfl fun _ K => d1 rfl K (Jz rfl rfl) rfl rfl fun _ K => d1 rfl K (Qe Jh rfl) rfl rfl fun _ K => ?_
     refine d1 rfl K (Qg rfl (M.load (k := 2) rfl (Qk Uj rfl))) rfl rfl fun _ K => d1 rfl K (Jn un_S_api_Rune rfl rfl (h.run.mem M (by simp)).len) rfl rfl fun _ K => d1 rfl K (os_geq rfl rfl) rfl rfl fun _ K => ?_
     refine dB rfl K (Qc rfl) rfl rfl fun b46 _ e46 K => ?_
     cases b46
     · replace e46 := of_decide_eq_false e46
       refine dgn rfl K rfl rfl rfl rfl fun _ _ K => dgn rfl K rfl rfl rfl rfl fun _ _ K => dgn rfl K rfl rfl rfl rfl fun _ _ K => dgn rfl K rfl rfl rfl rfl fun _ _ K => dgn rfl K rfl rfl rfl rfl fun _ _ K => d1 rfl K (Qj rfl rfl rfl) rfl rfl fun _ K => wd_nil ?_
       show W _ _ _ _ _ _ _
       refine Qr (t := false) (K.opd rfl) (fun h => by cases h) (fun _ => ?_)
       refine Q3 ?_
       exact ⟨_, (.cons (K _ _ rfl) (.cons (K _ _ rfl) (.cons (K _ _ rfl) (.cons (K _ _ rfl) (.cons (K _ _ rfl) (.cons (K _ _ rfl) .nil)))))), M.less (.refl _), (by first
              | (rw [placeIn_eq (by omega)])
              | (obtain ⟨q, rfl⟩ := bad_some ‹_›; rw [placeIn_ge (by omega)]; rfl)
              | (rw [bad_none (bad := bad) ‹_›, placeIn_ge (by omega), placeIn_ge (by omega), fin_none]))⟩
     · replace e46 := of_decide_eq_true e46
       refine dg rfl K rfl rfl (Qc rfl) rfl rfl fun _ K => dg rfl K rfl rfl (Jz rfl rfl) rfl rfl fun _ K => dg rfl K rfl rfl (Qe fo_sibylref2_reader_2 rfl) rfl rfl fun _ K => dg rfl K rfl rfl (Qg rfl (M.load (k := 2) rfl (Qk Ju rfl))) rfl rfl fun _ K => dg rfl K rfl rfl (os_geq rfl rfl) rfl rfl fun _ K => d1 rfl K (Qj rfl rfl rfl) rfl rfl fun _ K => wd_nil ?_
       show W _ _ _ _ _ _ _
       refine Qr (K.opd rfl) (fun h52 => ?_) (fun h52 => ?_)
       · replace h52 := of_decide_eq_true h52
         refine Qa <| o1 K (Qc rfl) rfl fun _ K => o1 K (Jz rfl rfl) rfl fun _ K => o1 K (Qe fo_sibylref2_reader_2 rfl) rfl fun _ K => o1 K (Qg rfl (M.load (k := 2) rfl (Qk Ju rfl))) rfl fun _ K => o1 K (Qb rfl) rfl fun _ K => Qd ?_
         exact ⟨_, (.cons (K _ _ rfl) (.cons (K _ _ rfl) (.cons (K _ _ rfl) (.cons (K _ _ rfl) (.cons (K _ _ rfl) (.cons (K _ _ rfl) .nil)))))), M.less (.refl _), (by first
              | (rw [placeIn_eq (by omega)])
              | (obtain ⟨q, rfl⟩ := bad_some ‹_›; rw [placeIn_ge (by omega)]; rfl)
              | (rw [bad_none (bad := bad) ‹_›, placeIn_ge (by omega), placeIn_ge (by omega), fin_none]))⟩
       · replace h52 := of_decide_eq_false h52
         refine Q3 ?_
         exact ⟨_, (.cons (K _ _ rfl) (.cons (K _ _ rfl) (.cons (K _ _ rfl) (.cons (K _ _ rfl) (.cons (K _ _ rfl) (.cons (K _ _ rfl) .nil)))))), M.less (.refl _), (by first
              | (rw [placeIn_eq (by omega)])
              | (obtain ⟨q, rfl⟩ := bad_some ‹_›; rw [placeIn_ge (by omega)]; rfl)
              | (rw [bad_none (bad := bad) ‹_›, placeIn_ge (by omega), placeIn_ge (by omega), fin_none]))⟩
   · obtain ⟨z, K, M, rfl⟩ := hJ
     refine Qh ?_
     refine w_drawI (l := [(0, 0), (1, 0), (2, 0), (3, 0), (4, 0), (5, 0), (6, 0), (7, 0), (8, 0), (9, 0)]) (by kernel_rfl) ?_
     refine d1 rfl K (Qc rfl) rfl rfl fun _ K => d1 rfl K (Jz rfl rfl) rfl rfl fun _ K => d1 rfl K (Qe fo_sibylref2_reader_0 rfl) rfl rfl fun _ K => d1 rfl K (Qg rfl (M.load (k := 2) rfl (Qk Qx rfl))) rfl rfl fun _ K => d1 rfl K (Qe fo_api_Token_3 rfl) rfl rfl fun _ K => d1 rfl K (Qg rfl (M.load (k := 0) rfl (Qk Ju rfl))) rfl rfl fun _ K => d1 rfl K (Qc rfl) rfl rfl fun _ K => d1 rfl K (os_sliceS (a := (placeIn (finOf (bytesOf l) bad) L (n))) (b := (placeIn (finOf (bytesOf l) bad) L (n + moreN (L.drop n)))) un_string rfl rfl rfl (h.mono n (n + moreN (L.drop n)) (by omega)).1 (h.mono n (n + moreN (L.drop n)) (by omega)).2) rfl rfl fun _ K => d1 rfl K (Qe fo_api_Token_1 rfl) rfl rfl fun _ K => ?_
     refine wd_store (k := 0) rfl K M rfl rfl rfl sz_string rfl rfl rfl fun _ M => ?_
     refine wd_nil ?_
     show W _ _ _ _ _ _ _
     refine Qh <| Qa <| o1 K (Qc rfl) rfl fun _ K => o1 K (Qc rfl) rfl fun _ K => o1 K (Jz rfl rfl) rfl fun _ K => o1 K (Qe Qv rfl) rfl fun _ K => o1 K (Qg rfl (M.load (k := 2) rfl (Qk Ju rfl))) rfl fun _ K => o1 K (Qc rfl) rfl fun _ K => o1 K (Jm rfl rfl (by omega) (by omega)) rfl fun _ K => ?_
     refine o1 K (Jz rfl rfl) rfl fun _ K => o1 K (Qe Qv rfl) rfl fun _ K => ?_
     refine Qz (k := 2) K M rfl rfl rfl sz_int rfl rfl rfl fun _ M => ?_
     refine Qd ?_
     show W _ _ _ _ _ _ _
     refine Qh <| Qh <| Qa <| o1 K (Qe fo_api_Token_1 rfl) rfl fun _ K => o1 K (Qg rfl (M.load (k := 0) rfl (Qk Qx rfl))) rfl fun _ K => ?_
     obtain ⟨v77, st77, ev77, rfl, q77⟩ := rword_ev M.fresh (((l).drop (placeIn (finOf (bytesOf l) bad) L (n))).take (placeIn (finOf (bytesOf l) bad) L (n + moreN (L.drop n)) - placeIn (finOf (bytesOf l) bad) L (n)))
     refine o1 K (Qn rfl ev77) rfl fun _ K => ?_
     replace M := M.quiet q77
     refine Qd ?_
     show W _ _ _ _ _ _ _
     refine Qr (K.opd rfl) (fun h77 => ?_) (fun h77 => ?_)
     · refine Qa <| o1 K (Qe fo_api_Token_0 rfl) rfl fun _ K => ?_
       refine Qz (k := 0) K M rfl rfl rfl sz_int rfl rfl rfl fun _ M => ?_
       refine Qd ?_
       show W _ _ _ _ _ _ _
       refine Qh <| Qa <| o1 K (Qg rfl (M.load (k := 0) rfl (Ql Jw rfl))) rfl fun _ K => o1 K (Qc rfl) rfl fun _ K => o1 K (os_leq rfl rfl) rfl fun _ K => ?_
       refine Qz (k := 1) K M rfl rfl rfl J1 rfl rfl rfl fun _ M => ?_
       refine o1 K (Qb rfl) rfl fun _ K => Qd ?_
       show W _ _ _ _ _ _ _
       refine Qs ?_
       refine ⟨.inr rfl, _, (res_two (Js K rfl (M.load (k := 1) rfl (Ql Jw rfl))) (Qp K rfl)), ?_⟩
       exact ⟨(by rw [if_pos h77]), M.chg, h.next (M.row1 (k := 2) rfl) (h.run.mem M (by simp)) (by omega)⟩
     · refine Q3 ?_
       show W _ _ _ _ _ _ _
       refine Qh <| Qa <| o1 K (Qg rfl (M.load (k := 0) rfl (Ql Jw rfl))) rfl fun _ K => o1 K (Qc rfl) rfl fun _ K => o1 K (os_leq rfl rfl) rfl fun _ K => ?_
       refine Qz (k := 1) K M rfl rfl rfl J1 rfl rfl rfl fun _ M => ?_
       refine o1 K (Qb rfl) rfl fun _ K => Qd ?_
       show W _ _ _ _ _ _ _
       refine Qs ?_
       refine ⟨.inr rfl, _, (res_two (Js K rfl (M.load (k := 1) rfl (Ql Jw rfl))) (Qp K rfl)), ?_⟩
       exact ⟨(by rw [if_neg (by rw [h77]; decide)]), M.chg, h.next (M.row1 (k := 2) rfl) (h.run.mem M (by simp)) (by omega)⟩

theorem rnumber_ev {st : St} (hf : Fresh st) {g : Nat} {l : List Nat} {ks : AV} {L : List (Nat × Nat)} {bad : Option Nat} {n : Nat} (h : Rdr st.h.get g l ks L bad n) (hn : n < L.length) : ∃ v st', Ev Tryd.prog envD 115 [.ptr g 0 0] st v st' ∧ v = .tup [.agg [.int .i64 2, .str [], .int .i64 ((numCap 1000 0 (L.drop n) : Nat) : Int), .int .i64 ((placeIn (finOf (bytesOf l) bad) L (n) : Nat) : Int)], .bool (decide (((numCap 1000 0 (L.drop n) : Nat) : Int) ≤ 99) && !(isC L n 48 && decide (1 < ((digN (L.drop n) : Nat) : Int))))] ∧ Chg [g] st st' ∧ Rdr st'.h.get g l ks L bad (n + digN (L.drop n)) := by
 have hrl := @run_len L
 have hfew := h.few
 have hle := h.le
 have hsz := h.size
 have hml := moreN_le (L.drop n)
 have hdl := digN_le (L.drop n)
 rw [List.length_drop] at hml hdl
 refine J5 rfl Tryd.func115 rfl Tryd.ntmps115 rfl (by decide) (by simp) fun T hT => ?_
 have K : KnT [(0, _)] T := (.cons (hT 0) .nil)
 have M := Mem.start1 hf h.row
 refine Qh <| Qa ?_
 refine Jy K M Ue (by decide) fun c2 _ _ K M => ?_
 refine o1 K (Qb rfl) rfl fun _ K => Qd ?_
 show W _ _ _ _ _ _ _
 refine Qh <| Qa <| o1 K (Qc rfl) rfl fun _ K => ?_
 obtain ⟨v8, st8, ev8, rfl, q8⟩ := rat0f M.fresh (h.next (M.row1 (k := 1) rfl) (h.run.mem M (by simp)) (by omega)) (by omega)
 refine o1 K (Qn rfl ev8) rfl fun _ K => ?_
 replace M := M.quiet q8
 refine o1 K (os_build st_api_Token rfl rfl) rfl fun _ K => ?_
 refine Jy K M Ue (by decide) fun c4 _ _ K M => ?_
 refine Qz (k := 0) K M rfl rfl rfl J1 rfl rfl rfl fun _ M => ?_
 refine Qd ?_
 show W _ _ _ _ _ _ _
 refine Qh <| Qa <| o1 K (Qc rfl) rfl fun _ K => ?_
 obtain ⟨v11, st11, ev11, rfl, q11⟩ := ris_ev M.fresh (h.next (M.row1 (k := 2) rfl) (h.run.mem M (by simp)) (by omega)) 0 (by omega) 48
 refine o1 K (Qn rfl ev11) rfl fun _ K => ?_
 replace M := M.quiet q11
 refine o1 K (Qb rfl) rfl fun _ K => Qd ?_
 show W _ _ _ _ _ _ _
 refine Qh <| Qa <| o1 K (Qb rfl) rfl fun _ K => Qd ?_
 show W _ _ _ _ _ _ _
 refine w_cut (J := fun T st9 => KnT [(0, .ptr g 0 0), (2, .ptr c2 0 0), (3, .bool false), (4, .ptr c4 0 0), (5, .bool (isC L (n + 0) 48)), (6, .int .i64 ((((digN (L.drop n)) : Nat) : Int)))] T ∧ Mem st.h.get st.n [g] st9 [(c4, 0, [.int .i64 2, .str [], .int .i64 ((((numCap 1000 0 (L.drop n)) : Nat) : Int)), .int .i64 (((placeIn (finOf (bytesOf l) bad) L (n) : Nat) : Int))]), (c2, 0, [.int .i64 0, .str [], .int .i64 0, .int .i64 0]), (g, 0, [.str l, ks, .int .i64 (badInt bad), .int .i64 (((n : Nat) : Int))])]) ?_ (fun T st9 hJ => ?_)
 ·refine Q5 ?_
  refine w_loop (fun mm1 T st9 => ∃ (j a : Nat), mm1 = digN (L.drop n) - j ∧ KnT [(0, .ptr g 0 0), (2, .ptr c2 0 0), (3, .bool false), (4, .ptr c4 0 0), (5, .bool (isC L (n + 0) 48)), (6, .int .i64 (((j : Nat) : Int)))] T ∧ Mem st.h.get st.n [g] st9 [(c4, 0, [.int .i64 2, .str [], .int .i64 (((a : Nat) : Int)), .int .i64 (((placeIn (finOf (bytesOf l) bad) L (n) : Nat) : Int))]), (c2, 0, [.int .i64 0, .str [], .int .i64 0, .int .i64 0]), (g, 0, [.str l, ks, .int .i64 (badInt bad), .int .i64 (((n : Nat) : Int))])] ∧ a ≤ 1000 ∧ numCap 1000 a (L.drop (n + j)) = numCap 1000 0 (L.drop n) ∧ j + digN (L.drop (n + j)) = digN (L.drop n)) (fun mm1 T st9 hI => ?_) _ _ _ ⟨0, 0, rfl, (.cons (K _ _ rfl) (.cons (K _ _ rfl) (.cons (K _ _ rfl) (.cons (K _ _ rfl) (.cons (K _ _ rfl) (.cons (K _ _ rfl) .nil)))))), M.less (.refl _), (by decide), rfl, (by rw [Nat.add_zero, Nat.zero_add])⟩
  obtain ⟨j, a, rfl, K, M, ha, hnum, hdig⟩ := hI
  refine Qh <| Qh <| Qa <| o1 K (Qc rfl) rfl fun _ K => o1 K (Qc rfl) rfl fun _ K => ?_
  obtain ⟨v14, st14, ev14, rfl, q14⟩ := rclass_ev M.fresh (h.next (M.row1 (k := 2) rfl) (h.run.mem M (by simp)) (by omega)) j (by omega)
  refine o1 K (Qn rfl ev14) rfl fun _ K => ?_
  replace M := M.quiet q14
  refine o1 K (os_eqI rfl rfl) rfl fun _ K => Qd ?_
  show W _ _ _ _ _ _ _
  refine Qr (K.opd rfl) (fun h15 => ?_) (fun h15 => ?_)
  ·replace h15 := of_decide_eq_true h15
   refine Q3 ?_
   show W _ _ _ _ _ _ _
   refine Q5 <| Qh ?_
   refine w_drawI (l := [(0, 0), (1, 0), (2, 0), (3, 0), (4, 0), (5, 0), (6, 0), (7, 0), (8, 0), (9, 0), (10, 0), (11, 0), (12, 0), (13, 0), (14, 0), (15, 0), (16, 0), (17, 0), (18, 0), (19, 0), (20, 0), (21, 0)]) (by kernel_rfl) ?_
   refine d1 rfl K (Qe fo_api_Token_2 rfl) rfl rfl fun _ K => d1 rfl K (Qg rfl (M.load (k := 0) rfl (Qk Ju rfl))) rfl rfl fun _ K => d1 rfl K (os_mulW (c := 10 * ((a : Nat) : Int)) rfl rfl (IntWalk.i64_in _ (by omega))) rfl rfl fun _ K => d1 rfl K (Qc rfl) rfl rfl fun _ K => d1 rfl K (Jz rfl rfl) rfl rfl fun _ K => d1 rfl K (Qe Jh rfl) rfl rfl fun _ K => d1 rfl K (Qg rfl (M.load (k := 2) rfl (Qk Uj rfl))) rfl rfl fun _ K => d1 rfl K (Qc rfl) rfl rfl fun _ K => d1 rfl K (Jz rfl rfl) rfl rfl fun _ K => ?_
   refine d1 rfl K (Qe Qv rfl) rfl rfl fun _ K => d1 rfl K (Qg rfl (M.load (k := 2) rfl (Qk Ju rfl))) rfl rfl fun _ K => d1 rfl K (Qc rfl) rfl rfl fun _ K => d1 rfl K (Jm rfl rfl (by omega) (by omega)) rfl rfl fun _ K => ?_
   have hn29 : (n + j) < L.length := by first | omega | exact class_lt (by omega)
   obtain ⟨rc29, ra29, hr29, hd29⟩ := rune_at hn29
   have hg29 := dig_of (c := rc29) (by first | (rw [← classAt_at hr29]; assumption))
   obtain ⟨x29, m29, f29, q29, _, la29, lo29, lp29⟩ := (h.run.mem M (by simp)).load (i := (n + j)) (cs := _) (run_at hr29)
   refine d1 rfl K (Q0 el_S_api_Rune (congrArg some q29) rfl (by rw [run_len]; exact hn29)) rfl rfl fun _ K => d1 rfl K (Qe fo_api_Rune_0 rfl) rfl rfl fun _ K => d1 rfl K (Qg rfl (lo29 _ 0 _ tk_int32 rfl)) rfl rfl fun _ K => d1 rfl K (os_subW (c := (rc29 : Int) - 48) rfl rfl (IntWalk.i32_in _ (by omega))) rfl rfl fun _ K => d1 rfl K (os_convW (c := ((rc29 : Int) - 48)) un_int un_int32 rfl (IntWalk.i64_in _ (by omega))) rfl rfl fun _ K => d1 rfl K (Jm rfl rfl (by omega) (by omega)) rfl rfl fun _ K => d1 rfl K (os_min rfl rfl) rfl rfl fun _ K => d1 rfl K (Qe fo_api_Token_2 rfl) rfl rfl fun _ K => ?_
   refine wd_store (k := 0) rfl K M rfl rfl rfl sz_int rfl rfl rfl fun _ M => ?_
   refine wd_nil ?_
   show W _ _ _ _ _ _ _
   refine Qa <| o1 K (Qc rfl) rfl fun _ K => o1 K (Jm rfl rfl (by omega) (by omega)) rfl fun _ K => o1 K (Qb rfl) rfl fun _ K => Qd ?_
   rw [show ((min (((10 * ((a : Nat) : Int)) + ((rc29 : Int) - 48))) 1000)) = ((min (a * 10 + (rc29 - 48)) 1000 : Nat) : Int) by omega] at M
   rw [hd29, num_step hg29.1] at hnum
   rw [hd29, dig_step hg29.1] at hdig
   exact ⟨_, (by omega), j + 1, min (a * 10 + (rc29 - 48)) 1000, rfl, (.cons (K _ _ rfl) (.cons (K _ _ rfl) (.cons (K _ _ rfl) (.cons (K _ _ rfl) (.cons (K _ _ rfl) (.cons (K _ _ rfl) .nil)))))), M.less (.refl _), (Nat.min_le_right _ _), hnum, (by rw [← Nat.add_assoc]; omega)⟩
  ·replace h15 := of_decide_eq_false h15
   refine Uk ?_
   obtain ⟨hs1, hs2⟩ := num_stop (cap := 1000) (a := a) ‹classAt L (n + j) ≠ 2›
   obtain rfl : a = numCap 1000 0 (L.drop n) := by omega
   obtain rfl : j = digN (L.drop n) := by omega
   exact ⟨(.cons (K _ _ rfl) (.cons (K _ _ rfl) (.cons (K _ _ rfl) (.cons (K _ _ rfl) (.cons (K _ _ rfl) (.cons (K _ _ rfl) .nil)))))), M.less (.refl _)⟩
 ·obtain ⟨K, M⟩ := hJ
  refine Qh <| Qa <| o1 K (Qc rfl) rfl fun _ K => o1 K (Qc rfl) rfl fun _ K => o1 K (Jz rfl rfl) rfl fun _ K => o1 K (Qe Qv rfl) rfl fun _ K => o1 K (Qg rfl (M.load (k := 2) rfl (Qk Ju rfl))) rfl fun _ K => o1 K (Qc rfl) rfl fun _ K => o1 K (Jm rfl rfl (by omega) (by omega)) rfl fun _ K => ?_
  refine o1 K (Jz rfl rfl) rfl fun _ K => o1 K (Qe Qv rfl) rfl fun _ K => ?_
  refine Qz (k := 2) K M rfl rfl rfl sz_int rfl rfl rfl fun _ M => ?_
  refine Qd ?_
  show W _ _ _ _ _ _ _
  refine Qh <| Qa <| o1 K (Qg rfl (M.load (k := 0) rfl (Ql Jw rfl))) rfl fun _ K => o1 K (Qe fo_api_Token_2 rfl) rfl fun _ K => o1 K (Qg rfl (M.load (k := 0) rfl (Qk Ju rfl))) rfl fun _ K => o1 K (os_leq rfl rfl) rfl fun _ K => ?_
  refine oB K (Qc rfl) rfl fun b52 _ e52 K => ?_
  cases b52
  ·replace e52 := of_decide_eq_false e52
   refine gn K rfl rfl rfl rfl fun _ K => gn K rfl rfl rfl rfl fun _ K => ?_
   refine gnT K rfl rfl rfl fun _ K => ?_
   refine gnT K rfl rfl rfl fun _ K => ?_
   refine gn K rfl rfl rfl rfl fun _ K => gn K rfl rfl rfl rfl fun _ K => o1 K (Qj rfl rfl rfl) rfl fun _ K => ?_
   refine Qz (k := 1) K M rfl rfl rfl J1 rfl rfl rfl fun _ M => ?_
   refine o1 K (Qb rfl) rfl fun _ K => Qd ?_
   show W _ _ _ _ _ _ _
   refine Qs ?_
   refine ⟨.inr rfl, _, (res_two (Js K rfl (M.load (k := 1) rfl (Ql Jw rfl))) (Qp K rfl)), ?_⟩
   exact ⟨congrArg AV.tup (congrArg (fun b => [AV.agg _, AV.bool b]) (by simp_all [bif'] <;> (intro h0; omega))), M.chg, h.next (M.row1 (k := 2) rfl) (h.run.mem M (by simp)) (by omega)⟩
  ·replace e52 := of_decide_eq_true e52
   refine og K rfl rfl (Qc rfl) rfl fun _ K => ?_
   refine oGB K rfl rfl (Qc rfl) rfl fun b54 _ e54 K => ?_
   cases b54
   ·refine gn K rfl rfl rfl rfl fun _ K => gn K rfl rfl rfl rfl fun _ K => og K rfl rfl (Qj rfl rfl rfl) rfl fun _ K => og K rfl rfl (os_not rfl) rfl fun _ K => o1 K (Qj rfl rfl rfl) rfl fun _ K => ?_
    refine Qz (k := 1) K M rfl rfl rfl J1 rfl rfl rfl fun _ M => ?_
    refine o1 K (Qb rfl) rfl fun _ K => Qd ?_
    show W _ _ _ _ _ _ _
    refine Qs ?_
    refine ⟨.inr rfl, _, (res_two (Js K rfl (M.load (k := 1) rfl (Ql Jw rfl))) (Qp K rfl)), ?_⟩
    exact ⟨congrArg AV.tup (congrArg (fun b => [AV.agg _, AV.bool b]) (by simp_all [bif'] <;> (intro h0; omega))), M.chg, h.next (M.row1 (k := 2) rfl) (h.run.mem M (by simp)) (by omega)⟩
   ·refine og K rfl rfl (Qc rfl) rfl fun _ K => og K rfl rfl (os_gtr rfl rfl) rfl fun _ K => og K rfl rfl (Qj rfl rfl rfl) rfl fun _ K => og K rfl rfl (os_not rfl) rfl fun _ K => o1 K (Qj rfl rfl rfl) rfl fun _ K => ?_
    refine Qz (k := 1) K M rfl rfl rfl J1 rfl rfl rfl fun _ M => ?_
    refine o1 K (Qb rfl) rfl fun _ K => Qd ?_
    show W _ _ _ _ _ _ _
    refine Qs ?_
    refine ⟨.inr rfl, _, (res_two (Js K rfl (M.load (k := 1) rfl (Ql Jw rfl))) (Qp K rfl)), ?_⟩
    exact ⟨congrArg AV.tup (congrArg (fun b => [AV.agg _, AV.bool b]) (by simp_all [bif'] <;> (intro h0; omega))), M.chg, h.next (M.row1 (k := 2) rfl) (h.run.mem M (by simp)) (by omega)⟩
end Go.Proofs.YtmjnbdkjekdkgaaDoor
