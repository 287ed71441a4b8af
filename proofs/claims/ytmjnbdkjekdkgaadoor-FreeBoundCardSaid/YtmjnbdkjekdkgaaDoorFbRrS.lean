/-
  The reader of 'sibylref2': signs, tokens.
-/
import Derived.Test.YtmjnbdkjekdkgaaDoorFbRrB
namespace Go.Proofs.YtmjnbdkjekdkgaaDoor
open Go Go.RowKit
set_option linter.unusedVariables false
set_option maxRecDepth 100000

theorem fitsN_le : ∀ (w : List Nat) (r : List (Nat × Nat)), fitsN r w = true → w.length ≤ r.length := by
 intro w
 induction w with
 | nil => intro r _; simp
 | cons b w ih =>
  intro r h
  cases r with
  | nil => cases h
  | cons x r =>
   obtain ⟨c, a⟩ := x
   rw [fitsN, Bool.and_eq_true] at h
   have := ih r h.2
   simp; omega
theorem fits_step {L : List (Nat × Nat)} {m : Nat} {w : List Nat} {k b : Nat} (h : w[k]? = some b) : fitsN (L.drop m) (w.drop k) = (isC L m (b : Int) && fitsN (L.drop (m + 1)) (w.drop (k + 1))) := by
 obtain ⟨h1, h2⟩ := List.getElem?_eq_some_iff.1 h
 rw [List.drop_eq_getElem_cons h1, h2]
 by_cases hm : m < L.length
 ·obtain ⟨c, q, h3, h4⟩ := rune_at hm
  rw [h4, fitsN, isC_at h3]
  congr 1
  rw [Bool.eq_iff_iff, decide_eq_true_iff, decide_eq_true_iff]
  exact ⟨fun e => by subst e; rfl, fun e => Int.ofNat_inj.1 e⟩
 ·rw [List.drop_eq_nil_of_le (by omega), isC_ge (by omega)]; rfl
theorem signs_small {i : Nat} {w : List Nat} (h : signsN[i]? = some w) : w.length ≤ 3 ∧ ∀ (k b : Nat), w[k]? = some b → b < 128 := by
 have h1 : ∀ w ∈ signsN, w.length ≤ 3 ∧ ∀ b ∈ w, b < 128 := by decide +kernel
 have h2 := h1 w (List.mem_of_getElem? h)
 exact ⟨h2.1, fun k b hb => h2.2 b (List.mem_of_getElem? hb)⟩
theorem find_step {L : List (Nat × Nat)} {i : Nat} {w : List Nat} (h : signsN[i]? = some w) : (signsN.drop i).find? (fun w => fitsN L w) = if fitsN L w = true then some w else (signsN.drop (i + 1)).find? fun w => fitsN L w := by
 obtain ⟨h1, h2⟩ := List.getElem?_eq_some_iff.1 h
 rw [List.drop_eq_getElem_cons h1, List.find?_cons, h2]
 cases fitsN L w <;> rfl
/-- What the reader's token is: its cells, may it be, how many runes it has. -/
def rsign (l : List Nat) (bad : Option Nat) (L : List (Nat × Nat)) (n : Nat) : List AV × Bool × Nat := match signN (L.drop n) with
  | some w => ([.int .i64 3, .str w, .int .i64 0, .int .i64 ((placeIn (finOf (bytesOf l) bad) L n : Nat) : Int)], true, w.length)
  | none => ([.int .i64 0, .str [], .int .i64 0, .int .i64 0], false, 0)
def rname (l : List Nat) (bad : Option Nat) (L : List (Nat × Nat)) (n : Nat) : List AV × Bool × Nat :=
 ([.int .i64 (if wordsN.contains ((l.drop (placeIn (finOf (bytesOf l) bad) L n)).take (placeIn (finOf (bytesOf l) bad) L (n + moreN (L.drop n)) - placeIn (finOf (bytesOf l) bad) L n)) then 3 else 1), .str ((l.drop (placeIn (finOf (bytesOf l) bad) L n)).take (placeIn (finOf (bytesOf l) bad) L (n + moreN (L.drop n)) - placeIn (finOf (bytesOf l) bad) L n)), .int .i64 0, .int .i64 ((placeIn (finOf (bytesOf l) bad) L n : Nat) : Int)],
  decide (((moreN (L.drop n) : Nat) : Int) ≤ 12), moreN (L.drop n))
def rnum (l : List Nat) (bad : Option Nat) (L : List (Nat × Nat)) (n : Nat) : List AV × Bool × Nat :=
 ([.int .i64 2, .str [], .int .i64 ((numCap 1000 0 (L.drop n) : Nat) : Int), .int .i64 ((placeIn (finOf (bytesOf l) bad) L n : Nat) : Int)], decide (((numCap 1000 0 (L.drop n) : Nat) : Int) ≤ 99) && !(isC L n 48 && decide (1 < ((digN (L.drop n) : Nat) : Int))), digN (L.drop n))
def rtok (l : List Nat) (bad : Option Nat) (L : List (Nat × Nat)) (n : Nat) : List AV × Bool × Nat := if classAt L n = 1 then rname l bad L n else if classAt L n = 2 then rnum l bad L n else rsign l bad L n
theorem rsign_cells (l : List Nat) (bad : Option Nat) (L : List (Nat × Nat)) (n : Nat) : ∃ k t p, (rsign l bad L n).1 = [.int .i64 k, .str t, .int .i64 0, .int .i64 p] := by
 unfold rsign
 split <;> exact ⟨_, _, _, rfl⟩

theorem rsign_ev {st : St} (hf : Fresh st) {g : Nat} {l : List Nat} {ks : AV} {L : List (Nat × Nat)} {bad : Option Nat} {n : Nat} (h : Rdr st.h.get g l ks L bad n) (hn : n < L.length) : ∃ v st', Ev Tryd.prog envD 116 [.ptr g 0 0] st v st' ∧ v = .tup [.agg (rsign l bad L n).1, .bool (rsign l bad L n).2.1] ∧ Chg [g] st st' ∧ Rdr st'.h.get g l ks L bad (n + (rsign l bad L n).2.2) := by
 have hrl := @run_len L
 have hfew := h.few
 have hle := h.le
 have hsz := h.size
 have hsl : (signsN.map fun w => [AV.str w]).length = 18 := rfl
 refine J5 rfl Tryd.func116 rfl Tryd.ntmps116 rfl (by decide) (by simp) fun T hT => ?_
 have K : KnT [(0, _)] T := (.cons (hT 0) .nil)
 have M := Mem.start1 hf h.row
 refine Qh <| Qa ?_
 refine Jy K M Ue (by decide) fun c2 _ _ K M => ?_
 refine o1 K (Qb rfl) rfl fun _ K => Qd ?_
 show W _ _ _ _ _ _ _
 refine Qh <| Qa ?_
 refine wr_bs K M Jv ze_string rfl rfl rfl rfl rfl fun c9 _ _ K M => ?_
 refine o1 K (Qb rfl) rfl fun _ K => Qd ?_
 show W _ _ _ _ _ _ _
 refine Qh <| Qh <| Qa <| o1 K (Qb rfl) rfl fun _ K => Qd ?_
 show W _ _ _ _ _ _ _
 refine Q5 ?_
 refine w_loop (fun mm1 T st9 => ∃ (i : Nat), mm1 = 18 - i ∧ KnT [(0, .ptr g 0 0), (2, .ptr c2 0 0), (4, .sl c9 0 0 18 1), (5, .int .i64 (((i : Nat) : Int)))] T ∧ Mem st.h.get st.n [g] st9 [(c9, 0, [.str [60, 61, 62], .str [61, 62], .str [60, 61], .str [126, 61], .str [61], .str [126], .str [60], .str [38], .str [124], .str [40], .str [41], .str [123], .str [125], .str [44], .str [59], .str [58], .str [43], .str [92]]), (c2, 0, [.int .i64 0, .str [], .int .i64 0, .int .i64 0]), (g, 0, [.str l, ks, .int .i64 (badInt bad), .int .i64 (((n : Nat) : Int))])] ∧ i ≤ 18 ∧ signN (L.drop n) = (signsN.drop i).find? (fun w => fitsN (L.drop n) w)) (fun mm1 T st9 hI => ?_) _ _ _ ⟨0, rfl, (.cons (K _ _ rfl) (.cons (K _ _ rfl) (.cons (K _ _ rfl) (.cons (K _ _ rfl) .nil)))), M.less (.refl _), (by decide), rfl⟩
 obtain ⟨i, rfl, K, M, hi, hs⟩ := hI
 refine Qh <| Qh <| Qa <| o1 K (Qc rfl) rfl fun _ K => o1 K (Qc rfl) rfl fun _ K => o1 K (Jn un_S_string rfl rfl rfl) rfl fun _ K => o1 K (os_lss rfl rfl) rfl fun _ K => Qd ?_
 show W _ _ _ _ _ _ _
 refine Qr (K.opd rfl) (fun h13 => ?_) (fun h13 => ?_)
 ·replace h13 := of_decide_eq_true h13
  refine Q3 ?_
  show W _ _ _ _ _ _ _
  refine Qh <| Q5 <| Qh <| Qa <| o1 K (Qb rfl) rfl fun _ K => Qd ?_
  show W _ _ _ _ _ _ _
  obtain ⟨w, hw⟩ : ∃ w, signsN[i]? = some w := ⟨_, List.getElem?_eq_getElem (by show i < 18; omega)⟩
  have hw3 := (signs_small hw).1
  refine w_cut (J := fun T st9 => ∃ (okb : Bool), KnT [(0, .ptr g 0 0), (2, .ptr c2 0 0), (4, .sl c9 0 0 18 1), (5, .int .i64 (((i : Nat) : Int))), (6, .bool okb)] T ∧ Mem st.h.get st.n [g] st9 [(c9, 0, [.str [60, 61, 62], .str [61, 62], .str [60, 61], .str [126, 61], .str [61], .str [126], .str [60], .str [38], .str [124], .str [40], .str [41], .str [123], .str [125], .str [44], .str [59], .str [58], .str [43], .str [92]]), (c2, 0, [.int .i64 0, .str [], .int .i64 0, .int .i64 0]), (g, 0, [.str l, ks, .int .i64 (badInt bad), .int .i64 (((n : Nat) : Int))])] ∧ fitsN (L.drop n) w = okb) ?_ (fun T st9 hJ => ?_)
  ·refine Qh <| Qa <| o1 K (Qb rfl) rfl fun _ K => Qd ?_
   show W _ _ _ _ _ _ _
   refine Q5 ?_
   refine w_loop (fun mm2 T st9 => ∃ (k : Nat) (okb : Bool), mm2 = w.length - k ∧ KnT [(0, .ptr g 0 0), (2, .ptr c2 0 0), (4, .sl c9 0 0 18 1), (5, .int .i64 (((i : Nat) : Int))), (6, .bool okb), (7, .int .i64 (((k : Nat) : Int)))] T ∧ Mem st.h.get st.n [g] st9 [(c9, 0, [.str [60, 61, 62], .str [61, 62], .str [60, 61], .str [126, 61], .str [61], .str [126], .str [60], .str [38], .str [124], .str [40], .str [41], .str [123], .str [125], .str [44], .str [59], .str [58], .str [43], .str [92]]), (c2, 0, [.int .i64 0, .str [], .int .i64 0, .int .i64 0]), (g, 0, [.str l, ks, .int .i64 (badInt bad), .int .i64 (((n : Nat) : Int))])] ∧ k ≤ w.length ∧ fitsN (L.drop n) w = (okb && fitsN (L.drop (n + k)) (w.drop k))) (fun mm2 T st9 hI => ?_) _ _ _ ⟨0, true, rfl, (.cons (K _ _ rfl) (.cons (K _ _ rfl) (.cons (K _ _ rfl) (.cons (K _ _ rfl) (.cons (K _ _ rfl) (.cons (K _ _ rfl) .nil)))))), M.less (.refl _), (Nat.zero_le _), rfl⟩
   obtain ⟨k, okb, rfl, K, M, hk, hf2⟩ := hI
   refine Qh <| Qh <| Qa <| o1 K (Qc rfl) rfl fun _ K => o1 K (Qc rfl) rfl fun _ K => o1 K (Qc rfl) rfl fun _ K => ?_
   obtain ⟨x19, m19, f19, q19, _, la19, lo19, lp19⟩ := (RdR.own (X := []) (z := 1) (ls := signsN.map fun w => [AV.str w]) (M.row1 (k := 0) rfl) (by simp) (by simp) (by decide)).load (i := i) (cs := [.str w]) (by rw [List.getElem?_map, hw]; rfl)
   refine o1 K (Q0 el_S_string (congrArg some q19) rfl (by omega)) rfl fun _ K => o1 K (Qg rfl (lo19 _ 0 _ Qx rfl)) rfl fun _ K => o1 K (os_lenS un_string rfl rfl) rfl fun _ K => o1 K (os_lss rfl rfl) rfl fun _ K => Qd ?_
   show W _ _ _ _ _ _ _
   refine Qr (K.opd rfl) (fun h22 => ?_) (fun h22 => ?_)
   ·replace h22 := of_decide_eq_true h22
    refine Q3 ?_
    show W _ _ _ _ _ _ _
    refine Qh <| Q5 <| Qa <| o1 K (Qc rfl) rfl fun _ K => ?_
    refine oB K (Qc rfl) rfl fun b26 _ e26 K => ?_
    cases b26
    ·refine gn K rfl rfl rfl rfl fun _ K => gn K rfl rfl rfl rfl fun _ K => gn K rfl rfl rfl rfl fun _ K => gn K rfl rfl rfl rfl fun _ K => gn K rfl rfl rfl rfl fun _ K => gn K rfl rfl rfl rfl fun _ K => gn K rfl rfl rfl rfl fun _ K => gn K rfl rfl rfl rfl fun _ K => gn K rfl rfl rfl rfl fun _ K => ?_
     refine gn K rfl rfl rfl rfl fun _ K => o1 K (Qj rfl rfl rfl) rfl fun _ K => o1 K (Qb rfl) rfl fun _ K => Qd ?_
     show W _ _ _ _ _ _ _
     refine Qa <| o1 K (Qc rfl) rfl fun _ K => o1 K (Jm rfl rfl (by omega) (by omega)) rfl fun _ K => o1 K (Qb rfl) rfl fun _ K => Qd ?_
     exact ⟨_, (by omega), k + 1, false, rfl, (.cons (K _ _ rfl) (.cons (K _ _ rfl) (.cons (K _ _ rfl) (.cons (K _ _ rfl) (.cons (K _ _ rfl) (.cons (K _ _ rfl) .nil)))))), M.less (.refl _), (by omega), (by first | (rw [hf2, fits_step hb34, ← Bool.and_assoc]; rfl) | (rw [hf2, e26]; rfl) | (rw [hf2, fits_step hb34, e26]; rfl))⟩
    ·refine og K rfl rfl (Qc rfl) rfl fun _ K => og K rfl rfl (Qc rfl) rfl fun _ K => og K rfl rfl (Qc rfl) rfl fun _ K => og K rfl rfl (Qc rfl) rfl fun _ K => ?_
     obtain ⟨x31, m31, f31, q31, _, la31, lo31, lp31⟩ := (RdR.own (X := []) (z := 1) (ls := signsN.map fun w => [AV.str w]) (M.row1 (k := 0) rfl) (by simp) (by simp) (by decide)).load (i := i) (cs := [.str w]) (by rw [List.getElem?_map, hw]; rfl)
     refine og K rfl rfl (Q0 el_S_string (congrArg some q31) rfl (by omega)) rfl fun _ K => og K rfl rfl (Qg rfl (lo31 _ 0 _ Qx rfl)) rfl fun _ K => og K rfl rfl (Qc rfl) rfl fun _ K => ?_
     obtain ⟨b34, hb34⟩ : ∃ b, w[k]? = some b := ⟨_, List.getElem?_eq_getElem (by omega)⟩
     have hs34 := (signs_small hw).2 _ _ hb34
     refine og K rfl rfl (os_indexS (j := k) un_string rfl rfl hb34) rfl fun _ K => og K rfl rfl (os_convW (c := (b34 : Int)) un_int32 un_uint8 rfl (IntWalk.i32_in _ (by omega))) rfl fun _ K => ?_
     obtain ⟨v36, st36, ev36, rfl, q36⟩ := ris_ev M.fresh (h.next (M.row1 (k := 2) rfl) (h.run.mem M (by simp)) (by omega)) k (by omega) (b34 : Int)
     refine og K rfl rfl (Qn rfl ev36) rfl fun _ K => ?_
     replace M := M.quiet q36
     refine o1 K (Qj rfl rfl rfl) rfl fun _ K => o1 K (Qb rfl) rfl fun _ K => Qd ?_
     show W _ _ _ _ _ _ _
     refine Qa <| o1 K (Qc rfl) rfl fun _ K => o1 K (Jm rfl rfl (by omega) (by omega)) rfl fun _ K => o1 K (Qb rfl) rfl fun _ K => Qd ?_
     exact ⟨_, (by omega), k + 1, (isC L (n + k) (b34 : Int)), rfl, (.cons (K _ _ rfl) (.cons (K _ _ rfl) (.cons (K _ _ rfl) (.cons (K _ _ rfl) (.cons (K _ _ rfl) (.cons (K _ _ rfl) .nil)))))), M.less (.refl _), (by omega), (by first | (rw [hf2, fits_step hb34, ← Bool.and_assoc]; rfl) | (rw [hf2, e26]; rfl) | (rw [hf2, fits_step hb34, e26]; rfl))⟩
   ·replace h22 := of_decide_eq_false h22
    refine Uk ?_
    exact ⟨_, (.cons (K _ _ rfl) (.cons (K _ _ rfl) (.cons (K _ _ rfl) (.cons (K _ _ rfl) (.cons (K _ _ rfl) .nil))))), M.less (.refl _), (by rw [hf2, show w.drop k = [] from List.drop_eq_nil_of_le (by omega)]; cases L.drop (n + k) <;> simp [fitsN])⟩
  ·obtain ⟨okb, K, M, hfit⟩ := hJ
   refine Qh <| Qa <| o1 K (Qc rfl) rfl fun _ K => Qd ?_
   show W _ _ _ _ _ _ _
   refine Qr (K.opd rfl) (fun h38 => ?_) (fun h38 => ?_)
   ·refine Qh ?_
    refine w_drawI (l := [(4, 0), (5, 0), (0, 0), (1, 0), (2, 0), (3, 1), (6, 0), (7, 0), (8, 0)]) (by kernel_rfl) ?_
    refine d1 rfl K (Qc rfl) rfl rfl fun _ K => ?_
    obtain ⟨v44, st44, ev44, rfl, q44⟩ := rat0f M.fresh (h.next (M.row1 (k := 2) rfl) (h.run.mem M (by simp)) (by omega)) (by omega)
    refine dA rfl K (Qn rfl ev44) rfl rfl fun _ K => ?_
    have Mp := M
    replace M := M.quiet q44
    refine d1 rfl K (Qc rfl) rfl rfl fun _ K => d1 rfl K (Qc rfl) rfl rfl fun _ K => ?_
    obtain ⟨x41, m41, f41, q41, _, la41, lo41, lp41, la'41, lo'41, lp'41⟩ := RdR.load2 (RdR.own (X := []) (z := 1) (ls := signsN.map fun w => [AV.str w]) (M.row1 (k := 0) rfl) (by simp) (by simp) (by decide)) (RdR.own (X := []) (z := 1) (ls := signsN.map fun w => [AV.str w]) (Mp.row1 (k := 0) rfl) (by simp) (by simp) (by decide)) (i := i) (cs := [.str w]) (by rw [List.getElem?_map, hw]; rfl)
    refine d1 rfl K (Q0 el_S_string (congrArg some q41) rfl (by omega)) rfl rfl fun _ K => ?_
    refine wd_load1 rfl K rfl (lo41 _ 0 _ Qx rfl) (lo'41 _ 0 _ Qx rfl) (eqV_one rfl) rfl (by decide) fun _ K => ?_
    refine d1 rfl K (os_build st_api_Token rfl rfl) rfl rfl fun _ K => ?_
    refine wd_alloc rfl K M Ue (by decide) fun c8 _ _ K M => ?_
    have Mp := M
    refine wd_store (k := 0) rfl K M rfl rfl rfl J1 rfl rfl rfl fun _ M => ?_
    refine wd_nil ?_
    show W _ _ _ _ _ _ _
    refine Qh ?_
    refine w_drawI (l := [(0, 0), (1, 0), (2, 0), (3, 0), (4, 0), (5, 0), (6, 0), (7, 0), (8, 0), (9, 0), (10, 0), (11, 0), (12, 0), (13, 0)]) (by kernel_rfl) ?_
    refine d1 rfl K (Qc rfl) rfl rfl fun _ K => d1 rfl K (Qc rfl) rfl rfl fun _ K => d1 rfl K (Jz rfl rfl) rfl rfl fun _ K => d1 rfl K (Qe Qv rfl) rfl rfl fun _ K => d1 rfl K (Qg rfl (M.load (k := 3) rfl (Qk Ju rfl))) rfl rfl fun _ K => d1 rfl K (Qc rfl) rfl rfl fun _ K => d1 rfl K (Qc rfl) rfl rfl fun _ K => ?_
    obtain ⟨x53, m53, f53, q53, _, la53, lo53, lp53⟩ := (RdR.own (X := []) (z := 1) (ls := signsN.map fun w => [AV.str w]) (M.row1 (k := 1) rfl) (by simp) (by simp) (by decide)).load (i := i) (cs := [.str w]) (by rw [List.getElem?_map, hw]; rfl)
    refine d1 rfl K (Q0 el_S_string (congrArg some q53) rfl (by omega)) rfl rfl fun _ K => d1 rfl K (Qg rfl (lo53 _ 0 _ Qx rfl)) rfl rfl fun _ K => d1 rfl K (os_lenS un_string rfl rfl) rfl rfl fun _ K => d1 rfl K (Jm rfl rfl (by omega) (by omega)) rfl rfl fun _ K => d1 rfl K (Jz rfl rfl) rfl rfl fun _ K => d1 rfl K (Qe Qv rfl) rfl rfl fun _ K => ?_
    refine wd_store (k := 3) rfl K M rfl rfl rfl sz_int rfl rfl rfl fun _ M => ?_
    refine wd_nil ?_
    show W _ _ _ _ _ _ _
    refine Qh <| Qa <| o1 K (Qg rfl (M.load (k := 0) rfl (Ql Jw rfl))) rfl fun _ K => ?_
    refine Qz (k := 2) K M rfl rfl rfl J1 rfl rfl rfl fun _ M => ?_
    refine o1 K (Qb rfl) rfl fun _ K => Qd ?_
    show W _ _ _ _ _ _ _
    refine Qs ?_
    refine ⟨.inr rfl, _, (res_two (Js K rfl (M.load (k := 2) rfl (Ql Jw rfl))) (Qp K rfl)), ?_⟩
    have hsg : signN (L.drop n) = some w := by rw [hs, find_step hw, if_pos (by rw [hfit, h38])]
    have hle2 := fitsN_le w _ (by rw [hfit, h38])
    rw [List.length_drop] at hle2
    refine ⟨by simp only [rsign, hsg], M.chg, ?_⟩
    simp only [rsign, hsg]
    exact h.next (M.row1 (k := 3) rfl) (h.run.mem M (by simp)) (by omega)
   ·refine Q3 ?_
    show W _ _ _ _ _ _ _
    refine Qa <| o1 K (Qc rfl) rfl fun _ K => o1 K (Jm rfl rfl (by omega) (by omega)) rfl fun _ K => o1 K (Qb rfl) rfl fun _ K => Qd ?_
    exact ⟨_, (by omega), i + 1, rfl, (.cons (K _ _ rfl) (.cons (K _ _ rfl) (.cons (K _ _ rfl) (.cons (K _ _ rfl) .nil)))), M.less (.refl _), (by omega), (by rw [hs, find_step hw, if_neg (by rw [hfit, h38]; decide)])⟩
 ·replace h13 := of_decide_eq_false h13
  refine Uk ?_
  show W _ _ _ _ _ _ _
  refine Qh <| Qa <| o1 K (os_build st_api_Token rfl rfl) rfl fun _ K => ?_
  refine Qz (k := 1) K M rfl rfl rfl J1 rfl rfl rfl fun _ M => ?_
  refine o1 K (Qb rfl) rfl fun _ K => Qd ?_
  show W _ _ _ _ _ _ _
  refine Qs ?_
  refine ⟨.inr rfl, _, (res_two (Js K rfl (M.load (k := 1) rfl (Ql Jw rfl))) (Qp K rfl)), ?_⟩
  have hsg : signN (L.drop n) = none := by rw [hs, show signsN.drop i = [] from List.drop_eq_nil_of_le (by show 18 ≤ i; omega)]; rfl
  refine ⟨by simp only [rsign, hsg], M.chg, ?_⟩
  simp only [rsign, hsg]
  exact h.next (M.row1 (k := 2) rfl) (h.run.mem M (by simp)) (by omega)

theorem rtoken_ev {st : St} (hf : Fresh st) {g : Nat} {l : List Nat} {ks : AV} {L : List (Nat × Nat)} {bad : Option Nat} {n : Nat} (h : Rdr st.h.get g l ks L bad n) (hn : n < L.length) : ∃ v st', Ev Tryd.prog envD 83 [.ptr g 0 0] st v st' ∧ v = .tup [.agg (rtok l bad L n).1, .bool (rtok l bad L n).2.1] ∧ Chg [g] st st' ∧ Rdr st'.h.get g l ks L bad (n + (rtok l bad L n).2.2) := by
 have hrl := @run_len L
 have hfew := h.few
 have hle := h.le
 have hsz := h.size
 refine J5 rfl Tryd.func83 rfl Tryd.ntmps83 rfl (by decide) (by simp) fun T hT => ?_
 have K : KnT [(0, _)] T := (.cons (hT 0) .nil)
 have M := Mem.start1 hf h.row
 refine Qh <| Qa ?_
 refine Jy K M Ue (by decide) fun c2 _ _ K M => ?_
 refine o1 K (Qb rfl) rfl fun _ K => Qd ?_
 show W _ _ _ _ _ _ _
 refine Qh <| Qh <| Qa <| o1 K (Qc rfl) rfl fun _ K => ?_
 obtain ⟨v5, st5, ev5, rfl, q5⟩ := rclass0 M.fresh (h.next (M.row1 (k := 1) rfl) (h.run.mem M (by simp)) (by omega))
 refine o1 K (Qn rfl ev5) rfl fun _ K => ?_
 replace M := M.quiet q5
 refine Qd ?_
 show W _ _ _ _ _ _ _
 refine Q5 <| Qh <| Qa <| o1 K (os_eqI rfl rfl) rfl fun _ K => o1 K (Qb rfl) rfl fun _ K => Qd ?_
 show W _ _ _ _ _ _ _
 refine Qr (K.opd rfl) (fun h6 => ?_) (fun h6 => ?_)
 ·replace h6 := of_decide_eq_true h6
  refine Qh <| Qa <| o1 K (Qc rfl) rfl fun _ K => ?_
  obtain ⟨v9, st9, ev9, rfl, q9, r9⟩ := rname_ev M.fresh (h.next (M.row1 (k := 1) rfl) (h.run.mem M (by simp)) (by omega)) (by omega) ‹_›
  refine o1 K (Qn rfl ev9) rfl fun _ K => ?_
  replace M := M.call1 (k := 1) rfl q9 r9.row
  refine o1 K (Jx rfl rfl) rfl fun _ K => o1 K (Jx rfl rfl) rfl fun _ K => ?_
  refine Qz (k := 0) K M rfl rfl rfl J1 rfl rfl rfl fun _ M => ?_
  refine o1 K (Qb rfl) rfl fun _ K => Qd ?_
  show W _ _ _ _ _ _ _
  refine Qs ?_
  refine ⟨.inr rfl, _, (res_two (Js K rfl (M.load (k := 0) rfl (Ql Jw rfl))) (Qp K rfl)), ?_⟩
  exact ⟨(by rw [rtok, if_pos ‹classAt L n = 1›]; rfl), M.chg, (by rw [rtok, if_pos ‹classAt L n = 1›]; exact h.next (M.row1 (k := 1) rfl) (h.run.mem M (by simp)) r9.le)⟩
 ·replace h6 := of_decide_eq_false h6
  refine Qh <| Qa <| o1 K (os_eqI rfl rfl) rfl fun _ K => o1 K (Qb rfl) rfl fun _ K => Qd ?_
  show W _ _ _ _ _ _ _
  refine Qr (K.opd rfl) (fun h12 => ?_) (fun h12 => ?_)
  ·replace h12 := of_decide_eq_true h12
   refine Qh <| Qa <| o1 K (Qc rfl) rfl fun _ K => ?_
   obtain ⟨v15, st15, ev15, rfl, q15, r15⟩ := rnumber_ev M.fresh (h.next (M.row1 (k := 1) rfl) (h.run.mem M (by simp)) (by omega)) (by omega)
   refine o1 K (Qn rfl ev15) rfl fun _ K => ?_
   replace M := M.call1 (k := 1) rfl q15 r15.row
   refine o1 K (Jx rfl rfl) rfl fun _ K => o1 K (Jx rfl rfl) rfl fun _ K => ?_
   refine Qz (k := 0) K M rfl rfl rfl J1 rfl rfl rfl fun _ M => ?_
   refine o1 K (Qb rfl) rfl fun _ K => Qd ?_
   show W _ _ _ _ _ _ _
   refine Qs ?_
   refine ⟨.inr rfl, _, (res_two (Js K rfl (M.load (k := 0) rfl (Ql Jw rfl))) (Qp K rfl)), ?_⟩
   exact ⟨(by rw [rtok, if_neg ‹¬ classAt L n = 1›, if_pos ‹classAt L n = 2›]; rfl), M.chg, (by rw [rtok, if_neg ‹¬ classAt L n = 1›, if_pos ‹classAt L n = 2›]; exact h.next (M.row1 (k := 1) rfl) (h.run.mem M (by simp)) r15.le)⟩
  ·replace h12 := of_decide_eq_false h12
   refine Q3 ?_
   show W _ _ _ _ _ _ _
   refine Qh <| Qa <| o1 K (Qc rfl) rfl fun _ K => ?_
   obtain ⟨sk, stx, sp, hsc⟩ := rsign_cells l bad L n
   obtain ⟨v19, st19, ev19, rfl, q19, r19⟩ := hsc ▸ rsign_ev M.fresh (h.next (M.row1 (k := 1) rfl) (h.run.mem M (by simp)) (by omega)) (by omega)
   refine o1 K (Qn rfl ev19) rfl fun _ K => ?_
   replace M := M.call1 (k := 1) rfl q19 r19.row
   refine o1 K (Jx rfl rfl) rfl fun _ K => o1 K (Jx rfl rfl) rfl fun _ K => ?_
   refine Qz (k := 0) K M rfl rfl rfl J1 rfl rfl rfl fun _ M => ?_
   refine o1 K (Qb rfl) rfl fun _ K => Qd ?_
   show W _ _ _ _ _ _ _
   refine Qs ?_
   refine ⟨.inr rfl, _, (res_two (Js K rfl (M.load (k := 0) rfl (Ql Jw rfl))) (Qp K rfl)), ?_⟩
   exact ⟨(by rw [rtok, if_neg ‹¬ classAt L n = 1›, if_neg ‹¬ classAt L n = 2›, hsc]), M.chg, (by rw [rtok, if_neg ‹¬ classAt L n = 1›, if_neg ‹¬ classAt L n = 2›]; exact h.next (M.row1 (k := 1) rfl) (h.run.mem M (by simp)) r19.le)⟩
end Go.Proofs.YtmjnbdkjekdkgaaDoor
