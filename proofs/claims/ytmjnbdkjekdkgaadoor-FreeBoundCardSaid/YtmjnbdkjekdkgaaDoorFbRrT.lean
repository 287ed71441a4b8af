/-
  The reader of 'sibylref2': 'Tokens', 'IsName'; the program's 'isName'.
-/
import Derived.Test.YtmjnbdkjekdkgaaDoorFbTokEq
namespace Go.Proofs.YtmjnbdkjekdkgaaDoor
open Go Go.RowKit
set_option linter.unusedVariables false
set_option linter.unusedSimpArgs false
set_option maxRecDepth 100000

theorem each_ev {st : St} (hf : Fresh st) (l : List Nat) (hl : l.length ≤ 2000) : ∃ v st', Ev Tryd.prog envD 80 [.str l] st v st' ∧ ∃ ks, v = .tup [ks, .int .i64 (badInt (each (bytesOf l)).2)] ∧ NewR st st' 2 ks ((each (bytesOf l)).1.map runeAV) ∧ Qt st st' := by
 have hlen := each_len' (bytesOf l) (bytesOf l).size 0
 have hlen : (each (bytesOf l)).1.length ≤ (bytesOf l).size := hlen
 rw [Jg] at hlen
 obtain ⟨ks, st', h1, h2, h3⟩ := ev_sumRow (P := Tryd.prog) (G := envD) (f := 80) (F := sEach) (z := 2) (ls := (each (bytesOf l)).1.map runeAV) (rest := [.int .i64 (badInt (each (bytesOf l)).2)]) rfl hf (args := [.str l]) (fun cs hc => by
  obtain ⟨x, _, rfl⟩ := List.mem_map.1 hc; rfl) (by simp; omega) (by
  unfold sEach
  simp only [Nat.ble_eq_true_of_le (show l.length ≤ 100000 by omega), Jj, List.length_map]
  rfl)
 exact ⟨_, st', h1, ks, rfl, h2, h3⟩
theorem lexH_len (s : ByteArray) (fin : Nat) : ∀ (f : Nat) (r : List (Nat × Nat)) (l : List TokR), (lexH s fin f r).1 = some l → l.length ≤ r.length := by
 intro f
 induction f with
 | zero => intro r l h; injection h with h; subst h; simp
 | succ f ih =>
  intro r l h
  cases r with
  | nil => injection h with h; subst h; simp
  | cons x r =>
   rw [lexH] at h
   split at h
   ·rename_i hok
    have hp := tokR_pos s fin (x :: r) hok
    simp only at h
    cases hx : (lexH s fin f (((x :: r).drop (tokR s fin (x :: r)).len).drop (blankGo false ((x :: r).drop (tokR s fin (x :: r)).len)))).1 with
    | none => rw [hx] at h; cases h
    | some l' =>
     rw [hx] at h
     injection h with h
     subst h
     have := ih _ _ hx
     simp only [List.length_drop, List.length_cons] at this ⊢
     omega
   ·cases h
theorem tokens_len (s : ByteArray) : (tokens s).1.length ≤ 2001 := by
 unfold tokens
 split
 ·simp
 ·rename_i hs
  have hlen := each_len' s s.size 0
  have hlen : (each s).1.length ≤ s.size := hlen
  split
  ·simp
  ·rename_i l x h
   split
   ·simp
   ·have := lexH_len _ _ _ _ l (by rw [h])
    simp only [List.length_drop, List.length_append, List.length_cons, List.length_nil] at this ⊢
    omega
theorem rtok_cells (l : List Nat) (bad : Option Nat) (L : List (Nat × Nat)) (n : Nat) : ∃ k t m p, (rtok l bad L n).1 = [.int .i64 k, .str t, .int .i64 m, .int .i64 p] := by
 unfold rtok
 split
 ·exact ⟨_, _, _, _, rfl⟩
 ·split
  ·exact ⟨_, _, _, _, rfl⟩
  ·obtain ⟨a, b, c, h⟩ := rsign_cells l bad L n
   exact ⟨a, b, 0, c, h⟩
theorem Rdr.new {st : St} {g : Nat} {l : List Nat} {ks : AV} (hl : l.length ≤ 2000) (hr : Row1 st.h.get g 0 [.str l, ks, .int .i64 (badInt (each (bytesOf l)).2), .int .i64 ((0 : Nat) : Int)]) (hk : RdR st.h.get [g] 2 ((each (bytesOf l)).1.map runeAV) ks) : Rdr st.h.get g l ks (each (bytesOf l)).1 (each (bytesOf l)).2 0 := by
 have hlen := each_len' (bytesOf l) (bytesOf l).size 0
 have hlen : (each (bytesOf l)).1.length ≤ (bytesOf l).size := hlen
 rw [Jg] at hlen
 refine ⟨hr, hk, by omega, Nat.zero_le _, by omega, fun i j hij => ?_⟩
 have := placeAt_mono (bytesOf l) i j hij
 rw [Jg] at this
 exact this
theorem Acc.apart {h0 : Hp} {n0 n1 z : Nat} {X : List Nat} {st : St} {L A B : List (Nat × Nat × List AV)} {ks : AV} {ls : List (List AV)} (hM : Mem h0 n0 X st (L ++ (A ++ B))) (hA : Acc n1 z A ks ls) {k c m : Nat} {l : List AV} (hk : L[k]? = some (c, m, l)) : RdR st.h.get [c] z ls ks := by
 have r := hM.accR hA
 cases hA with
 | none => exact .nil _ _ _
 | own hc hz hb =>
  rename_i c' m'
  refine RdR.own (hM.row c' m' _ (by simp)) hz ?_ (by omega)
  simp only [List.mem_singleton]
  intro e
  subst e
  have hn := hM.nodup
  rw [List.map_append, List.nodup_append] at hn
  exact hn.2.2 c' (List.mem_map.2 ⟨_, List.mem_of_getElem? hk, rfl⟩) c' (by simp) rfl
theorem comb_nil (x : Option (List TokR) × Nat) : comb [] x = x := by
 obtain ⟨y1, y2⟩ := x
 cases y1 <;> simp [comb]
theorem tok_long {s : ByteArray} (h : 2000 < s.size) : tokens s = ([], 0, 3) := by rw [tokens, if_pos h]
theorem tok_bad {s : ByteArray} {p : Nat} (h : ¬ 2000 < s.size) (hx : lexH s (finOf s (each s).2) ((each s).1.length + 1) ((each s).1.drop (blankGo false (each s).1)) = (none, p)) : tokens s = ([], p, 2) := by
 rw [tokens, if_neg h, hx]
theorem tok_odd {s : ByteArray} {a : List TokR} {p q : Nat} (h : ¬ 2000 < s.size) (hx : lexH s (finOf s (each s).2) ((each s).1.length + 1) ((each s).1.drop (blankGo false (each s).1)) = (some a, p)) (hq : (each s).2 = some q) : tokens s = ([], q, 2) := by
 rw [tokens, if_neg h, hx]
 simp only [hq]
theorem tok_end {s : ByteArray} {a : List TokR} {p : Nat} (h : ¬ 2000 < s.size) (hx : lexH s (finOf s (each s).2) ((each s).1.length + 1) ((each s).1.drop (blankGo false (each s).1)) = (some a, p)) (hq : (each s).2 = none) : tokens s = (a ++ [endTok s], s.size, 0) := by
 rw [tokens, if_neg h, hx]
 simp only [hq]

theorem rtokens_ev {st : St} (hf : Fresh st) (l : List Nat) (hB : Bytes l) : ∃ v st', Ev Tryd.prog envD 66 [.str l] st v st' ∧ ∃ ks, v = .tup [ks, .int .i64 (tokens (bytesOf l)).2.1, .int .i64 (tokens (bytesOf l)).2.2] ∧ NewR st st' 4 ks ((tokens (bytesOf l)).1.map TokR.cells) ∧ Qt st st' := by
 have hEl : (each (bytesOf l)).1.length ≤ l.length := by
  have h := each_len' (bytesOf l) (bytesOf l).size 0
  have h : (each (bytesOf l)).1.length ≤ (bytesOf l).size := h
  rw [Jg] at h; exact h
 have hmp : ((each (bytesOf l)).1.map runeAV).length = (each (bytesOf l)).1.length := by simp
 refine J5 rfl Tryd.func66 rfl Tryd.ntmps66 rfl (by decide) (by simp) fun T hT => ?_
 have K : KnT [(0, _)] T := (.cons (hT 0) .nil)
 have M := Mem.start hf
 refine Qh <| Qa <| o1 K (Qb rfl) rfl fun _ K => o1 K (Qb rfl) rfl fun _ K => o1 K (Qb rfl) rfl fun _ K => Qd ?_
 show W _ _ _ _ _ _ _
 refine Qh <| Qh <| Qa <| o1 K (Qc rfl) rfl fun _ K => o1 K (os_lenS un_string rfl rfl) rfl fun _ K => o1 K (os_gtr rfl rfl) rfl fun _ K => Qd ?_
 show W _ _ _ _ _ _ _
 refine Qr (K.opd rfl) (fun h12 => ?_) (fun h12 => ?_)
 · replace h12 := of_decide_eq_true h12
   refine Qh <| Qa <| o1 K (Qb rfl) rfl fun _ K => o1 K (Qb rfl) rfl fun _ K => o1 K (Qb rfl) rfl fun _ K => Qd ?_
   show W _ _ _ _ _ _ _
   refine Qs ?_
   refine ⟨.inr rfl, _, (res_three (Qp K rfl) (Qp K rfl) (Qp K rfl)), ?_⟩
   rw [tok_long (by rw [Jg]; omega)]
   exact ⟨.nils, rfl, ⟨[], .none, fun _ _ _ h => by cases h⟩, M.qt⟩
 · replace h12 := of_decide_eq_false h12
   refine Q3 ?_
   show W _ _ _ _ _ _ _
   refine Qh <| Qa <| o1 K (Qc rfl) rfl fun _ K => o1 K (os_build st_sibylref2_reader rfl rfl) rfl fun _ K => ?_
   refine Ub K M rfl rfl (by decide) fun c15 _ _ K M => ?_
   refine o1 K (Qb rfl) rfl fun _ K => Qd ?_
   show W _ _ _ _ _ _ _
   refine Qh <| Qa <| o1 K (Qc rfl) rfl fun _ K => o1 K (Qc rfl) rfl fun _ K => o1 K (Qc rfl) rfl fun _ K => ?_
   obtain ⟨v20, st20, ev20, ks20, rfl, nr20, q20⟩ := each_ev M.fresh l (by omega)
   refine o1 K (Qn rfl ev20) rfl fun _ K => ?_
   obtain ⟨A20, hA20, M⟩ := M.callAcc q20 nr20
   refine o1 K (Qc rfl) rfl fun _ K => o1 K (Jx rfl rfl) rfl fun _ K => o1 K (Jx rfl rfl) rfl fun _ K => o1 K (Jz rfl rfl) rfl fun _ K => o1 K (Qe Jh rfl) rfl fun _ K => ?_
   refine wr_store1 (k := 0) K M rfl rfl rfl sz_S_api_Rune (hA20.cell) rfl fun _ M => ?_
   refine o1 K (Jz rfl rfl) rfl fun _ K => o1 K (Qe fo_sibylref2_reader_2 rfl) rfl fun _ K => ?_
   refine Qz (k := 0) K M rfl rfl rfl sz_int rfl rfl rfl fun _ M => ?_
   refine Qd ?_
   show W _ _ _ _ _ _ _
   refine Qh <| Qa <| o1 K (Qb rfl) rfl fun _ K => Qd ?_
   show W _ _ _ _ _ _ _
   refine Qh <| Qh <| Qa <| o1 K (Qc rfl) rfl fun _ K => ?_
   obtain ⟨v28, st28, ev28, rfl, q28, r28⟩ := rskip_ev M.fresh (Rdr.new (by omega) (M.row1 (k := 0) rfl) (Acc.apart (L := [(c15, 0, [.str l, ks20, .int .i64 (badInt (each (bytesOf l)).2), .int .i64 0])]) (A := A20) (B := []) M hA20 (k := 0) rfl))
   refine o1 K (Qn rfl ev28) rfl fun _ K => ?_
   have hrow28 := r28.row
   have hle28 := r28.le
   replace M := M.call1 (k := 0) rfl q28 hrow28
   refine Qd ?_
   show W _ _ _ _ _ _ _
   refine Q5 ?_
   refine w_loop (fun mm1 T st9 => ∃ (k f : Nat) (acc : List TokR) (ks : AV) (A : List (Nat × Nat × List AV)), mm1 = (each (bytesOf l)).1.length - k ∧ KnT [(0, .str l), (5, .ptr c15 0 0), (6, ks)] T ∧ Mem st.h.get st.n [] st9 ((c15, 0, [.str l, ks20, .int .i64 (badInt (each (bytesOf l)).2), .int .i64 (((k : Nat) : Int))]) :: (A20 ++ (A ++ []))) ∧ Acc st.n 4 A ks (acc.map TokR.cells) ∧ k ≤ (each (bytesOf l)).1.length ∧ acc.length ≤ k ∧ comb acc (lexH (bytesOf l) (finOf (bytesOf l) (each (bytesOf l)).2) f ((each (bytesOf l)).1.drop k)) = lexH (bytesOf l) (finOf (bytesOf l) (each (bytesOf l)).2) ((each (bytesOf l)).1.length + 1) ((each (bytesOf l)).1.drop (blankGo false (each (bytesOf l)).1)) ∧ (each (bytesOf l)).1.length < k + f) (fun mm1 T st9 hI => ?_) _ _ _ ⟨0 + blankGo false ((each (bytesOf l)).1.drop 0), (each (bytesOf l)).1.length + 1, [], .nils, [], rfl, (.cons (K _ _ rfl) (.cons (K _ _ rfl) (.cons (K _ _ rfl) .nil))), M.less (.refl _), .none, r28.le, (Nat.zero_le _), (by rw [comb_nil, Nat.zero_add, List.drop_zero]), (by omega)⟩
   obtain ⟨k, f, acc, ks, A, rfl, K, M, hA, hk, hacc, hinv, hf⟩ := hI
   refine Qh <| Qh ?_
   refine w_drawI (l := [(0, 0), (1, 0), (2, 0), (3, 0), (4, 0), (5, 0), (6, 0), (7, 0), (8, 0), (9, 0)]) (by kernel_rfl) ?_
   refine d1 rfl K (Qc rfl) rfl rfl fun _ K => d1 rfl K (Jz rfl rfl) rfl rfl fun _ K => d1 rfl K (Qe Qv rfl) rfl rfl fun _ K => d1 rfl K (Qg rfl (M.load (k := 0) rfl (Qk Ju rfl))) rfl rfl fun _ K => d1 rfl K (Qc rfl) rfl rfl fun _ K => d1 rfl K (Jz rfl rfl) rfl rfl fun _ K => d1 rfl K (Qe Jh rfl) rfl rfl fun _ K => d1 rfl K (Qg rfl (M.load (k := 0) rfl (Qk Uj rfl))) rfl rfl fun _ K => d1 rfl K (Jn un_S_api_Rune rfl rfl hA20.len) rfl rfl fun _ K => ?_
   refine d1 rfl K (os_lss rfl rfl) rfl rfl fun _ K => wd_nil ?_
   show W _ _ _ _ _ _ _
   refine Qr (K.opd rfl) (fun h38 => ?_) (fun h38 => ?_)
   ·replace h38 := of_decide_eq_true h38
    refine Q3 ?_
    show W _ _ _ _ _ _ _
    refine Qh <| Q5 <| Qh <| Qa <| o1 K (Qc rfl) rfl fun _ K => ?_
    obtain ⟨v42, st42, ev42, rfl, q42⟩ := rat0f M.fresh (r28.next (M.row1 (k := 0) rfl) (Acc.apart (L := [(c15, 0, [.str l, ks20, .int .i64 (badInt (each (bytesOf l)).2), .int .i64 (((k : Nat) : Int))])]) (A := A20) (B := (A ++ [])) M hA20 (k := 0) rfl) (by omega)) (by omega)
    refine o1 K (Qn rfl ev42) rfl fun _ K => ?_
    replace M := M.quiet q42
    refine o1 K (Qb rfl) rfl fun _ K => Qd ?_
    show W _ _ _ _ _ _ _
    refine Qh <| Qa <| o1 K (Qc rfl) rfl fun _ K => ?_
    obtain ⟨tk, tt, tm, tp, hsc⟩ := rtok_cells l (each (bytesOf l)).2 (each (bytesOf l)).1 k
    obtain ⟨v45, st45, ev45, rfl, q45, r45⟩ := hsc ▸ rtoken_ev M.fresh (r28.next (M.row1 (k := 0) rfl) (Acc.apart (L := [(c15, 0, [.str l, ks20, .int .i64 (badInt (each (bytesOf l)).2), .int .i64 (((k : Nat) : Int))])]) (A := A20) (B := (A ++ [])) M hA20 (k := 0) rfl) (by omega)) (by omega)
    refine o1 K (Qn rfl ev45) rfl fun _ K => ?_
    have hrow45 := r45.row
    have hle45 := r45.le
    replace M := M.call1 (k := 0) rfl q45 hrow45
    refine o1 K (Qc rfl) rfl fun _ K => o1 K (Jx rfl rfl) rfl fun _ K => o1 K (Jx rfl rfl) rfl fun _ K => ?_
    refine Jy K M Ue (by decide) fun c8 _ _ K M => ?_
    refine Qz (k := 0) K M rfl rfl rfl J1 rfl rfl rfl fun _ M => ?_
    refine o1 K (Qb rfl) rfl fun _ K => Qd ?_
    show W _ _ _ _ _ _ _
    refine Qh <| Qh <| Qa <| o1 K (Qc rfl) rfl fun _ K => o1 K (os_not rfl) rfl fun _ K => Qd ?_
    show W _ _ _ _ _ _ _
    refine Qr (K.opd rfl) (fun h49 => ?_) (fun h49 => ?_)
    ·replace h49 : ((rtok l (each (bytesOf l)).2 (each (bytesOf l)).1 k).2.1) = false := by simpa using h49
     refine Qh <| Qa <| o1 K (Qc rfl) rfl fun _ K => o1 K (Qb rfl) rfl fun _ K => o1 K (Qb rfl) rfl fun _ K => o1 K (Qb rfl) rfl fun _ K => Qd ?_
     show W _ _ _ _ _ _ _
     refine Qs ?_
     refine ⟨.inr rfl, _, (res_three (Qp K rfl) (Qp K rfl) (Qp K rfl)), ?_⟩
     obtain ⟨f, rfl⟩ : ∃ f', f = f' + 1 := ⟨f - 1, by omega⟩
     obtain ⟨te1, te2⟩ := tok_eq hB (n := k) (by omega)
     rw [h49] at te1
     rw [comb_bad _ _ _ _ _ (by rw [List.length_drop]; omega) te1.symm] at hinv
     rw [tok_bad (by rw [Jg]; omega) hinv.symm, placeIn_drop, Nat.add_zero]
     exact ⟨.nils, rfl, ⟨[], .none, fun _ _ _ h => by cases h⟩, M.qt⟩
    ·replace h49 : ((rtok l (each (bytesOf l)).2 (each (bytesOf l)).1 k).2.1) = true := by simpa using h49
     refine Q3 ?_
     show W _ _ _ _ _ _ _
     refine Qa <| o1 K (Qc rfl) rfl fun _ K => o1 K (Qg rfl (M.load (k := 0) rfl (Ql Jw rfl))) rfl fun _ K => ?_
     refine wr_bs K M sl_S_api_Token Ue rfl rfl rfl rfl rfl fun c53 _ _ K M => ?_
     refine wr_acc1 (k2 := 0) (L := ((c53, 0, [.int .i64 tk, .str tt, .int .i64 tm, .int .i64 tp]) :: (c8, 0, [.int .i64 tk, .str tt, .int .i64 tm, .int .i64 tp]) :: (c15, 0, [.str l, ks20, .int .i64 (badInt (each (bytesOf l)).2), .int .i64 ((((k + (rtok l (each (bytesOf l)).2 (each (bytesOf l)).1 k).2.2) : Nat) : Int))]) :: (A20 ++ []))) (A := A) (B := []) K (Mem.cast (M := ((c53, 0, [.int .i64 tk, .str tt, .int .i64 tm, .int .i64 tp]) :: (c8, 0, [.int .i64 tk, .str tt, .int .i64 tm, .int .i64 tp]) :: (c15, 0, [.str l, ks20, .int .i64 (badInt (each (bytesOf l)).2), .int .i64 ((((k + (rtok l (each (bytesOf l)).2 (each (bytesOf l)).1 k).2.2) : Nat) : Int))]) :: (A20 ++ (A ++ [])))) (M' := ((c53, 0, [.int .i64 tk, .str tt, .int .i64 tm, .int .i64 tp]) :: (c8, 0, [.int .i64 tk, .str tt, .int .i64 tm, .int .i64 tp]) :: (c15, 0, [.str l, ks20, .int .i64 (badInt (each (bytesOf l)).2), .int .i64 ((((k + (rtok l (each (bytesOf l)).2 (each (bytesOf l)).1 k).2.2) : Nat) : Int))]) :: (A20 ++ [])) ++ (A ++ [])) M (by simp only [List.append_assoc, List.cons_append, List.nil_append, List.append_nil])) hA sl_S_api_Token rfl rfl rfl rfl (by simp only [List.length_map]; omega) rfl fun ks54 A54 _ _ K hA54 M => ?_
     replace M := Mem.cast (M := ((c53, 0, [.int .i64 tk, .str tt, .int .i64 tm, .int .i64 tp]) :: (c8, 0, [.int .i64 tk, .str tt, .int .i64 tm, .int .i64 tp]) :: (c15, 0, [.str l, ks20, .int .i64 (badInt (each (bytesOf l)).2), .int .i64 ((((k + (rtok l (each (bytesOf l)).2 (each (bytesOf l)).1 k).2.2) : Nat) : Int))]) :: (A20 ++ [])) ++ (A54 ++ [])) (M' := ((c53, 0, [.int .i64 tk, .str tt, .int .i64 tm, .int .i64 tp]) :: (c8, 0, [.int .i64 tk, .str tt, .int .i64 tm, .int .i64 tp]) :: (c15, 0, [.str l, ks20, .int .i64 (badInt (each (bytesOf l)).2), .int .i64 ((((k + (rtok l (each (bytesOf l)).2 (each (bytesOf l)).1 k).2.2) : Nat) : Int))]) :: (A20 ++ (A54 ++ [])))) M (by simp only [List.append_assoc, List.cons_append, List.nil_append, List.append_nil])
     refine o1 K (Qb rfl) rfl fun _ K => Qd ?_
     show W _ _ _ _ _ _ _
     refine Qa <| o1 K (Qc rfl) rfl fun _ K => ?_
     obtain ⟨v40, st40, ev40, rfl, q40, r40⟩ := rskip_ev M.fresh (r28.next (M.row1 (k := 2) rfl) (Acc.apart (L := [(c53, 0, [.int .i64 tk, .str tt, .int .i64 tm, .int .i64 tp]), (c8, 0, [.int .i64 tk, .str tt, .int .i64 tm, .int .i64 tp]), (c15, 0, [.str l, ks20, .int .i64 (badInt (each (bytesOf l)).2), .int .i64 ((((k + (rtok l (each (bytesOf l)).2 (each (bytesOf l)).1 k).2.2) : Nat) : Int))])]) (A := A20) (B := (A54 ++ [])) M hA20 (k := 2) rfl) (by omega))
     refine o1 K (Qn rfl ev40) rfl fun _ K => ?_
     have hrow40 := r40.row
     have hle40 := r40.le
     replace M := M.call1 (k := 2) rfl q40 hrow40
     refine Qd ?_
     obtain ⟨f, rfl⟩ : ∃ f', f = f' + 1 := ⟨f - 1, by omega⟩
     obtain ⟨te1, te2⟩ := tok_eq hB (n := k) (by omega)
     rw [h49] at te1
     replace te2 := te2 te1.symm
     have tp1 := tokR_pos _ _ _ te1.symm
     have hr40 := r40.le
     rw [comb_ok _ _ _ _ _ (by rw [List.length_drop]; omega) te1.symm] at hinv
     simp only [List.drop_drop] at hinv
     rw [← te2.2] at hinv
     exact ⟨_, (by omega), _, f, acc ++ [tokR (bytesOf l) (finOf (bytesOf l) (each (bytesOf l)).2) ((each (bytesOf l)).1.drop k)], ks54, A54, rfl, (.cons (K _ _ rfl) (.cons (K _ _ rfl) (.cons (K _ _ rfl) .nil))), M.less (.cons _ (.cons _ (.refl _))), (by rw [List.map_append, List.map_singleton, ← te2.1, hsc]; exact hA54), hr40, (by simp; omega), (by simpa only [Nat.add_comm, Nat.add_left_comm, Nat.add_assoc] using hinv), (by omega)⟩
   ·replace h38 := of_decide_eq_false h38
    refine Uk ?_
    show W _ _ _ _ _ _ _
    refine Qh <| Qh <| Qa <| o1 K (Qc rfl) rfl fun _ K => o1 K (Jz rfl rfl) rfl fun _ K => o1 K (Qe fo_sibylref2_reader_2 rfl) rfl fun _ K => o1 K (Qg rfl (M.load (k := 0) rfl (Qk Ju rfl))) rfl fun _ K => o1 K (os_geq rfl rfl) rfl fun _ K => Qd ?_
    show W _ _ _ _ _ _ _
    refine Qr (K.opd rfl) (fun h59 => ?_) (fun h59 => ?_)
    ·replace h59 := of_decide_eq_true h59
     refine Qh ?_
     refine w_drawI (l := [(0, 0), (1, 0), (2, 0), (3, 0), (4, 0), (5, 0), (6, 0)]) (by kernel_rfl) ?_
     refine d1 rfl K (Qc rfl) rfl rfl fun _ K => d1 rfl K (Jz rfl rfl) rfl rfl fun _ K => d1 rfl K (Qe fo_sibylref2_reader_2 rfl) rfl rfl fun _ K => d1 rfl K (Qg rfl (M.load (k := 0) rfl (Qk Ju rfl))) rfl rfl fun _ K => d1 rfl K (Qb rfl) rfl rfl fun _ K => d1 rfl K (Qb rfl) rfl rfl fun _ K => d1 rfl K (Qb rfl) rfl rfl fun _ K => wd_nil ?_
     show W _ _ _ _ _ _ _
     refine Qs ?_
     refine ⟨.inr rfl, _, (res_three (Qp K rfl) (Qp K rfl) (Qp K rfl)), ?_⟩
     rw [show (each (bytesOf l)).1.drop k = [] from List.drop_eq_nil_of_le (by omega), comb_end] at hinv
     obtain ⟨q, hq⟩ := bad_some h59
     rw [tok_odd (by rw [Jg]; omega) hinv.symm hq, hq]
     exact ⟨.nils, rfl, ⟨[], .none, fun _ _ _ h => by cases h⟩, M.qt⟩
    ·replace h59 := of_decide_eq_false h59
     refine Q3 ?_
     show W _ _ _ _ _ _ _
     refine Qh <| Qa <| o1 K (Qc rfl) rfl fun _ K => o1 K (Qc rfl) rfl fun _ K => o1 K (os_lenS un_string rfl rfl) rfl fun _ K => o1 K (os_build st_api_Token rfl rfl) rfl fun _ K => ?_
     refine wr_bs K M sl_S_api_Token Ue rfl rfl rfl rfl rfl fun c68 _ _ K M => ?_
     refine wr_acc1 (k2 := 0) (L := ((c68, 0, [.int .i64 4, .str [], .int .i64 0, .int .i64 ((((l).length : Nat) : Int))]) :: (c15, 0, [.str l, ks20, .int .i64 (badInt (each (bytesOf l)).2), .int .i64 (((k : Nat) : Int))]) :: (A20 ++ []))) (A := A) (B := []) K (Mem.cast (M := ((c68, 0, [.int .i64 4, .str [], .int .i64 0, .int .i64 ((((l).length : Nat) : Int))]) :: (c15, 0, [.str l, ks20, .int .i64 (badInt (each (bytesOf l)).2), .int .i64 (((k : Nat) : Int))]) :: (A20 ++ (A ++ [])))) (M' := ((c68, 0, [.int .i64 4, .str [], .int .i64 0, .int .i64 ((((l).length : Nat) : Int))]) :: (c15, 0, [.str l, ks20, .int .i64 (badInt (each (bytesOf l)).2), .int .i64 (((k : Nat) : Int))]) :: (A20 ++ [])) ++ (A ++ [])) M (by simp only [List.append_assoc, List.cons_append, List.nil_append, List.append_nil])) hA sl_S_api_Token rfl rfl rfl rfl (by simp only [List.length_map]; omega) rfl fun ks69 A69 _ _ K hA69 M => ?_
     replace M := Mem.cast (M := ((c68, 0, [.int .i64 4, .str [], .int .i64 0, .int .i64 ((((l).length : Nat) : Int))]) :: (c15, 0, [.str l, ks20, .int .i64 (badInt (each (bytesOf l)).2), .int .i64 (((k : Nat) : Int))]) :: (A20 ++ [])) ++ (A69 ++ [])) (M' := ((c68, 0, [.int .i64 4, .str [], .int .i64 0, .int .i64 ((((l).length : Nat) : Int))]) :: (c15, 0, [.str l, ks20, .int .i64 (badInt (each (bytesOf l)).2), .int .i64 (((k : Nat) : Int))]) :: (A20 ++ (A69 ++ [])))) M (by simp only [List.append_assoc, List.cons_append, List.nil_append, List.append_nil])
     refine o1 K (Qc rfl) rfl fun _ K => o1 K (os_lenS un_string rfl rfl) rfl fun _ K => o1 K (Qb rfl) rfl fun _ K => o1 K (Qb rfl) rfl fun _ K => o1 K (Qb rfl) rfl fun _ K => Qd ?_
     show W _ _ _ _ _ _ _
     refine Qs ?_
     refine ⟨.inr rfl, _, (res_three (Qp K rfl) (Qp K rfl) (Qp K rfl)), ?_⟩
     rw [show (each (bytesOf l)).1.drop k = [] from List.drop_eq_nil_of_le (by omega), comb_end] at hinv
     rw [tok_end (by rw [Jg]; omega) hinv.symm (bad_none h59), Jg]
     refine ⟨_, rfl, ?_, M.qt⟩
     rw [List.map_append]
     have hE : [endTok (bytesOf l)].map TokR.cells = [[.int .i64 4, .str [], .int .i64 0, .int .i64 (l.length : Int)]] := by simp [endTok, TokR.cells, Jg, textOf]
     rw [hE]
     exact Mem.newR (L := ((c68, 0, [.int .i64 4, .str [], .int .i64 0, .int .i64 ((((l).length : Nat) : Int))]) :: (c15, 0, [.str l, ks20, .int .i64 (badInt (each (bytesOf l)).2), .int .i64 (((k : Nat) : Int))]) :: (A20 ++ []))) (A := A69) (B := []) (Mem.cast (M := ((c68, 0, [.int .i64 4, .str [], .int .i64 0, .int .i64 ((((l).length : Nat) : Int))]) :: (c15, 0, [.str l, ks20, .int .i64 (badInt (each (bytesOf l)).2), .int .i64 (((k : Nat) : Int))]) :: (A20 ++ (A69 ++ [])))) (M' := ((c68, 0, [.int .i64 4, .str [], .int .i64 0, .int .i64 ((((l).length : Nat) : Int))]) :: (c15, 0, [.str l, ks20, .int .i64 (badInt (each (bytesOf l)).2), .int .i64 (((k : Nat) : Int))]) :: (A20 ++ [])) ++ (A69 ++ [])) M (by simp only [List.append_assoc, List.cons_append, List.nil_append, List.append_nil])) hA69
end Go.Proofs.YtmjnbdkjekdkgaaDoor
