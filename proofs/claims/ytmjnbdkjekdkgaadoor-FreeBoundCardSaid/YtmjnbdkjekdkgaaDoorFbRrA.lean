/-
  The reader of 'sibylref2': 'class', 'is', 'at', 'skip'.
-/
import Derived.Test.YtmjnbdkjekdkgaaDoorFbRrP
import Derived.Test.YtmjnbdkjekdkgaaDoorFbEnvD
import Derived.Test.YtmjnbdkjekdkgaaDoorFbTys
namespace Go.Proofs.YtmjnbdkjekdkgaaDoor
open Go Go.RowKit
set_option linter.unusedVariables false
set_option maxRecDepth 100000

theorem class_ev {st : St} (hf : Fresh st) (r : Int) : ∃ v st', Ev Tryd.prog envD 138 [.int .i32 r] st v st' ∧ v = .int .i64 (classOf r) ∧ Qt st st' := ⟨_, _, ev_sumQ (F := sClass) rfl rfl, rfl, Qt.refl hf⟩

theorem rclass_ev {st : St} (hf : Fresh st) {g : Nat} {l : List Nat} {ks : AV} {L : List (Nat × Nat)} {bad : Option Nat} {n : Nat} (h : Rdr st.h.get g l ks L bad n) (k : Nat) (hk : k ≤ 100000) : ∃ v st', Ev Tryd.prog envD 112 [.ptr g 0 0, .int .i64 (((k : Nat) : Int))] st v st' ∧ v = .int .i64 (classAt L (n + k)) ∧ Qt st st' := by
 have hrl := @run_len L
 have hfew := h.few
 have hle := h.le
 have hsz := h.size
 refine J5 rfl Tryd.func112 rfl Tryd.ntmps112 rfl (by decide) (by simp) fun T hT => ?_
 have K : KnT [(0, _), (1, _)] T := (.cons (hT 0) (.cons (hT 1) .nil))
 have M := Mem.start hf
 refine Qh <| Qa <| o1 K (Qb rfl) rfl fun _ K => Qd ?_
 show W _ _ _ _ _ _ _
 refine Qh <| Qh ?_
 refine w_drawI (l := [(0, 0), (1, 0), (2, 0), (3, 0), (4, 0), (5, 0), (6, 0), (7, 0), (8, 0), (9, 0), (10, 0), (11, 0)]) (by kernel_rfl) ?_
 refine d1 rfl K (Qc rfl) rfl rfl fun _ K => d1 rfl K (Jz rfl rfl) rfl rfl fun _ K => d1 rfl K (Qe Qv rfl) rfl rfl fun _ K => d1 rfl K (Qg rfl (ld_row (M.rowX (by simp) h.row.rowV) (Qk Ju rfl))) rfl rfl fun _ K => d1 rfl K (Qc rfl) rfl rfl fun _ K => d1 rfl K (Jm rfl rfl (by omega) (by omega)) rfl rfl fun _ K => d1 rfl K (Qc rfl) rfl rfl fun _ K => d1 rfl K (Jz rfl rfl) rfl rfl fun _ K => d1 rfl K (Qe Jh rfl) rfl rfl fun _ K => ?_
 refine d1 rfl K (Qg rfl (ld_row (M.rowX (by simp) h.row.rowV) (Qk Uj rfl))) rfl rfl fun _ K => d1 rfl K (Jn un_S_api_Rune rfl rfl (h.run.mem M (by simp)).len) rfl rfl fun _ K => d1 rfl K (os_geq rfl rfl) rfl rfl fun _ K => wd_nil ?_
 show W _ _ _ _ _ _ _
 refine Qr (K.opd rfl) (fun h16 => ?_) (fun h16 => ?_)
 ·replace h16 := of_decide_eq_true h16
  refine Qh <| Qa <| o1 K (Qb rfl) rfl fun _ K => Qd ?_
  show W _ _ _ _ _ _ _
  refine Qs ?_
  refine ⟨.inr rfl, _, (Qm (Qp K rfl)), ?_⟩
  exact ⟨by rw [classAt_ge (by omega)], M.qt⟩
 ·replace h16 := of_decide_eq_false h16
  refine Q3 ?_
  show W _ _ _ _ _ _ _
  refine Qh ?_
  refine w_drawI (l := [(0, 0), (1, 0), (2, 0), (3, 0), (4, 0), (5, 0), (6, 0), (7, 0), (8, 0), (9, 0), (10, 0), (11, 0), (12, 0), (13, 0), (14, 0)]) (by kernel_rfl) ?_
  refine d1 rfl K (Qc rfl) rfl rfl fun _ K => d1 rfl K (Jz rfl rfl) rfl rfl fun _ K => d1 rfl K (Qe Jh rfl) rfl rfl fun _ K => d1 rfl K (Qg rfl (ld_row (M.rowX (by simp) h.row.rowV) (Qk Uj rfl))) rfl rfl fun _ K => d1 rfl K (Qc rfl) rfl rfl fun _ K => d1 rfl K (Jz rfl rfl) rfl rfl fun _ K => d1 rfl K (Qe Qv rfl) rfl rfl fun _ K => d1 rfl K (Qg rfl (ld_row (M.rowX (by simp) h.row.rowV) (Qk Ju rfl))) rfl rfl fun _ K => d1 rfl K (Qc rfl) rfl rfl fun _ K => ?_
  refine d1 rfl K (Jm rfl rfl (by omega) (by omega)) rfl rfl fun _ K => ?_
  obtain ⟨rc27, ra27, hr27, hd27⟩ := rune_at (L := L) (n := (n + k)) (by omega)
  obtain ⟨x27, m27, f27, q27, _, la27, lo27, lp27⟩ := (h.run.mem M (by simp)).load (i := (n + k)) (cs := _) (run_at hr27)
  refine d1 rfl K (Q0 el_S_api_Rune (congrArg some q27) rfl (by simp; omega)) rfl rfl fun _ K => d1 rfl K (Qe fo_api_Rune_0 rfl) rfl rfl fun _ K => d1 rfl K (Qg rfl (lo27 _ 0 _ tk_int32 rfl)) rfl rfl fun _ K => ?_
  obtain ⟨v30, st30, ev30, rfl, q30⟩ := class_ev M.fresh (rc27 : Int)
  refine dA rfl K (Qn rfl ev30) rfl rfl fun _ K => ?_
  have Mp := M
  replace M := M.quiet q30
  refine d1 rfl K (Qb rfl) rfl rfl fun _ K => wd_nil ?_
  show W _ _ _ _ _ _ _
  refine Qs ?_
  refine ⟨.inr rfl, _, (Qm (Qp K rfl)), ?_⟩
  exact ⟨by rw [classAt_at hr27], M.qt⟩

theorem ris_ev {st : St} (hf : Fresh st) {g : Nat} {l : List Nat} {ks : AV} {L : List (Nat × Nat)} {bad : Option Nat} {n : Nat} (h : Rdr st.h.get g l ks L bad n) (k : Nat) (hk : k ≤ 100000) (c : Int) : ∃ v st', Ev Tryd.prog envD 113 [.ptr g 0 0, .int .i64 (((k : Nat) : Int)), .int .i32 c] st v st' ∧ v = .bool (isC L (n + k) c) ∧ Qt st st' := by
 have hrl := @run_len L
 have hfew := h.few
 have hle := h.le
 have hsz := h.size
 refine J5 rfl Tryd.func113 rfl Tryd.ntmps113 rfl (by decide) (by simp) fun T hT => ?_
 have K : KnT [(0, _), (1, _), (2, _)] T := (.cons (hT 0) (.cons (hT 1) (.cons (hT 2) .nil)))
 have M := Mem.start hf
 refine Qh <| Qa <| o1 K (Qb rfl) rfl fun _ K => Qd ?_
 show W _ _ _ _ _ _ _
 refine Qh ?_
 refine w_drawI (l := [(0, 0), (1, 0), (2, 0), (3, 0), (4, 0), (5, 0), (6, 0), (7, 0), (8, 0), (9, 0), (10, 0), (11, 0), (12, 0), (13, 0), (14, 0), (15, 0), (16, 0), (17, 0), (18, 0), (19, 0), (20, 0), (21, 0), (22, 0), (23, 0), (24, 0), (25, 0), (26, 0), (27, 0), (28, 0), (29, 0)]) (by kernel_rfl) ?_
 refine d1 rfl K (Qc rfl) rfl rfl fun _ K => d1 rfl K (Jz rfl rfl) rfl rfl fun _ K => d1 rfl K (Qe Qv rfl) rfl rfl fun _ K => d1 rfl K (Qg rfl (ld_row (M.rowX (by simp) h.row.rowV) (Qk Ju rfl))) rfl rfl fun _ K => d1 rfl K (Qc rfl) rfl rfl fun _ K => d1 rfl K (Jm rfl rfl (by omega) (by omega)) rfl rfl fun _ K => d1 rfl K (Qc rfl) rfl rfl fun _ K => d1 rfl K (Jz rfl rfl) rfl rfl fun _ K => d1 rfl K (Qe Jh rfl) rfl rfl fun _ K => ?_
 refine d1 rfl K (Qg rfl (ld_row (M.rowX (by simp) h.row.rowV) (Qk Uj rfl))) rfl rfl fun _ K => d1 rfl K (Jn un_S_api_Rune rfl rfl (h.run.mem M (by simp)).len) rfl rfl fun _ K => d1 rfl K (os_lss rfl rfl) rfl rfl fun _ K => ?_
 refine dB rfl K (Qc rfl) rfl rfl fun b19 _ e19 K => ?_
 cases b19
 ·replace e19 := of_decide_eq_false e19
  refine dgn rfl K rfl rfl rfl rfl fun _ _ K => dgn rfl K rfl rfl rfl rfl fun _ _ K => dgn rfl K rfl rfl rfl rfl fun _ _ K => dgn rfl K rfl rfl rfl rfl fun _ _ K => dgn rfl K rfl rfl rfl rfl fun _ _ K => dgn rfl K rfl rfl rfl rfl fun _ _ K => dgn rfl K rfl rfl rfl rfl fun _ _ K => dgn rfl K rfl rfl rfl rfl fun _ _ K => dgn rfl K rfl rfl rfl rfl fun _ _ K => ?_
  refine dgn rfl K rfl rfl rfl rfl fun _ _ K => dgn rfl K rfl rfl rfl rfl fun _ _ K => dgn rfl K rfl rfl rfl rfl fun _ _ K => dgn rfl K rfl rfl rfl rfl fun _ _ K => dgn rfl K rfl rfl rfl rfl fun _ _ K => dgn rfl K rfl rfl rfl rfl fun _ _ K => d1 rfl K (Qj rfl rfl rfl) rfl rfl fun _ K => d1 rfl K (Qb rfl) rfl rfl fun _ K => wd_nil ?_
  show W _ _ _ _ _ _ _
  refine Qs ?_
  refine ⟨.inr rfl, _, (Qm (Qp K rfl)), ?_⟩
  exact ⟨(by rw [isC_ge (by omega)]; rfl), M.qt⟩
 ·replace e19 := of_decide_eq_true e19
  refine dg rfl K rfl rfl (Qc rfl) rfl rfl fun _ K => dg rfl K rfl rfl (Jz rfl rfl) rfl rfl fun _ K => dg rfl K rfl rfl (Qe Jh rfl) rfl rfl fun _ K => dg rfl K rfl rfl (Qg rfl (ld_row (M.rowX (by simp) h.row.rowV) (Qk Uj rfl))) rfl rfl fun _ K => dg rfl K rfl rfl (Qc rfl) rfl rfl fun _ K => dg rfl K rfl rfl (Jz rfl rfl) rfl rfl fun _ K => dg rfl K rfl rfl (Qe Qv rfl) rfl rfl fun _ K => dg rfl K rfl rfl (Qg rfl (ld_row (M.rowX (by simp) h.row.rowV) (Qk Ju rfl))) rfl rfl fun _ K => dg rfl K rfl rfl (Qc rfl) rfl rfl fun _ K => ?_
  refine dg rfl K rfl rfl (Jm rfl rfl (by omega) (by omega)) rfl rfl fun _ K => ?_
  obtain ⟨rc30, ra30, hr30, hd30⟩ := rune_at (L := L) (n := (n + k)) (by omega)
  obtain ⟨x30, m30, f30, q30, _, la30, lo30, lp30⟩ := (h.run.mem M (by simp)).load (i := (n + k)) (cs := _) (run_at hr30)
  refine dg rfl K rfl rfl (Q0 el_S_api_Rune (congrArg some q30) rfl (by simp; omega)) rfl rfl fun _ K => dg rfl K rfl rfl (Qe fo_api_Rune_0 rfl) rfl rfl fun _ K => dg rfl K rfl rfl (Qg rfl (lo30 _ 0 _ tk_int32 rfl)) rfl rfl fun _ K => dg rfl K rfl rfl (Qc rfl) rfl rfl fun _ K => dg rfl K rfl rfl (os_eqI rfl rfl) rfl rfl fun _ K => d1 rfl K (Qj rfl rfl rfl) rfl rfl fun _ K => d1 rfl K (Qb rfl) rfl rfl fun _ K => wd_nil ?_
  show W _ _ _ _ _ _ _
  refine Qs ?_
  refine ⟨.inr rfl, _, (Qm (Qp K rfl)), ?_⟩
  exact ⟨(by rw [isC_at hr30]; rfl), M.qt⟩

theorem rat_ev {st : St} (hf : Fresh st) {g : Nat} {l : List Nat} {ks : AV} {L : List (Nat × Nat)} {bad : Option Nat} {n : Nat} (h : Rdr st.h.get g l ks L bad n) (k : Nat) (hk : k ≤ 100000) : ∃ v st', Ev Tryd.prog envD 82 [.ptr g 0 0, .int .i64 (((k : Nat) : Int))] st v st' ∧ v = .int .i64 ((placeIn l.length L (n + k) : Nat) : Int) ∧ Qt st st' := by
 have hrl := @run_len L
 have hfew := h.few
 have hle := h.le
 have hsz := h.size
 refine J5 rfl Tryd.func82 rfl Tryd.ntmps82 rfl (by decide) (by simp) fun T hT => ?_
 have K : KnT [(0, _), (1, _)] T := (.cons (hT 0) (.cons (hT 1) .nil))
 have M := Mem.start hf
 refine Qh <| Qa <| o1 K (Qb rfl) rfl fun _ K => Qd ?_
 show W _ _ _ _ _ _ _
 refine Qh <| Qh ?_
 refine w_drawI (l := [(0, 0), (1, 0), (2, 0), (3, 0), (4, 0), (5, 0), (6, 0), (7, 0), (8, 0), (9, 0), (10, 0), (11, 0)]) (by kernel_rfl) ?_
 refine d1 rfl K (Qc rfl) rfl rfl fun _ K => d1 rfl K (Jz rfl rfl) rfl rfl fun _ K => d1 rfl K (Qe Qv rfl) rfl rfl fun _ K => d1 rfl K (Qg rfl (ld_row (M.rowX (by simp) h.row.rowV) (Qk Ju rfl))) rfl rfl fun _ K => d1 rfl K (Qc rfl) rfl rfl fun _ K => d1 rfl K (Jm rfl rfl (by omega) (by omega)) rfl rfl fun _ K => d1 rfl K (Qc rfl) rfl rfl fun _ K => d1 rfl K (Jz rfl rfl) rfl rfl fun _ K => d1 rfl K (Qe Jh rfl) rfl rfl fun _ K => ?_
 refine d1 rfl K (Qg rfl (ld_row (M.rowX (by simp) h.row.rowV) (Qk Uj rfl))) rfl rfl fun _ K => d1 rfl K (Jn un_S_api_Rune rfl rfl (h.run.mem M (by simp)).len) rfl rfl fun _ K => d1 rfl K (os_geq rfl rfl) rfl rfl fun _ K => wd_nil ?_
 show W _ _ _ _ _ _ _
 refine Qr (K.opd rfl) (fun h16 => ?_) (fun h16 => ?_)
 ·replace h16 := of_decide_eq_true h16
  refine Qh <| Qa <| o1 K (Qc rfl) rfl fun _ K => o1 K (Jz rfl rfl) rfl fun _ K => o1 K (Qe fo_sibylref2_reader_0 rfl) rfl fun _ K => o1 K (Qg rfl (ld_row (M.rowX (by simp) h.row.rowV) (Qk Qx rfl))) rfl fun _ K => o1 K (os_lenS un_string rfl rfl) rfl fun _ K => o1 K (Qb rfl) rfl fun _ K => Qd ?_
  show W _ _ _ _ _ _ _
  refine Qs ?_
  refine ⟨.inr rfl, _, (Qm (Qp K rfl)), ?_⟩
  exact ⟨by rw [placeIn_ge (by omega)], M.qt⟩
 ·replace h16 := of_decide_eq_false h16
  refine Q3 ?_
  show W _ _ _ _ _ _ _
  refine Qh ?_
  refine w_drawI (l := [(0, 0), (1, 0), (2, 0), (3, 0), (4, 0), (5, 0), (6, 0), (7, 0), (8, 0), (9, 0), (10, 0), (11, 0), (12, 0), (13, 0)]) (by kernel_rfl) ?_
  refine d1 rfl K (Qc rfl) rfl rfl fun _ K => d1 rfl K (Jz rfl rfl) rfl rfl fun _ K => d1 rfl K (Qe Jh rfl) rfl rfl fun _ K => d1 rfl K (Qg rfl (ld_row (M.rowX (by simp) h.row.rowV) (Qk Uj rfl))) rfl rfl fun _ K => d1 rfl K (Qc rfl) rfl rfl fun _ K => d1 rfl K (Jz rfl rfl) rfl rfl fun _ K => d1 rfl K (Qe Qv rfl) rfl rfl fun _ K => d1 rfl K (Qg rfl (ld_row (M.rowX (by simp) h.row.rowV) (Qk Ju rfl))) rfl rfl fun _ K => d1 rfl K (Qc rfl) rfl rfl fun _ K => ?_
  refine d1 rfl K (Jm rfl rfl (by omega) (by omega)) rfl rfl fun _ K => ?_
  obtain ⟨rc32, ra32, hr32, hd32⟩ := rune_at (L := L) (n := (n + k)) (by omega)
  obtain ⟨x32, m32, f32, q32, _, la32, lo32, lp32⟩ := (h.run.mem M (by simp)).load (i := (n + k)) (cs := _) (run_at hr32)
  refine d1 rfl K (Q0 el_S_api_Rune (congrArg some q32) rfl (by simp; omega)) rfl rfl fun _ K => d1 rfl K (Qe fo_api_Rune_1 rfl) rfl rfl fun _ K => d1 rfl K (Qg rfl (lo32 _ 1 _ Ju rfl)) rfl rfl fun _ K => d1 rfl K (Qb rfl) rfl rfl fun _ K => wd_nil ?_
  show W _ _ _ _ _ _ _
  refine Qs ?_
  refine ⟨.inr rfl, _, (Qm (Qp K rfl)), ?_⟩
  exact ⟨by rw [placeIn_at hr32], M.qt⟩

theorem rclass0 {st : St} (hf : Fresh st) {g : Nat} {l : List Nat} {ks : AV} {L : List (Nat × Nat)} {bad : Option Nat} {n : Nat} (h : Rdr st.h.get g l ks L bad n) : ∃ v st', Ev Tryd.prog envD 112 [.ptr g 0 0, .int .i64 0] st v st' ∧ v = .int .i64 (classAt L n) ∧ Qt st st' := rclass_ev hf h 0 (by decide)
theorem ris0 {st : St} (hf : Fresh st) {g : Nat} {l : List Nat} {ks : AV} {L : List (Nat × Nat)} {bad : Option Nat} {n : Nat} (h : Rdr st.h.get g l ks L bad n) (c : Int) : ∃ v st', Ev Tryd.prog envD 113 [.ptr g 0 0, .int .i64 0, .int .i32 c] st v st' ∧ v = .bool (isC L n c) ∧ Qt st st' := ris_ev hf h 0 (by decide) c
theorem rat0 {st : St} (hf : Fresh st) {g : Nat} {l : List Nat} {ks : AV} {L : List (Nat × Nat)} {bad : Option Nat} {n : Nat} (h : Rdr st.h.get g l ks L bad n) : ∃ v st', Ev Tryd.prog envD 82 [.ptr g 0 0, .int .i64 0] st v st' ∧ v = .int .i64 ((placeIn l.length L n : Nat) : Int) ∧ Qt st st' := rat_ev hf h 0 (by decide)

theorem rskip_ev {st : St} (hf : Fresh st) {g : Nat} {l : List Nat} {ks : AV} {L : List (Nat × Nat)} {bad : Option Nat} {n : Nat} (h : Rdr st.h.get g l ks L bad n) : ∃ v st', Ev Tryd.prog envD 81 [.ptr g 0 0] st v st' ∧ v = .tup [] ∧ Chg [g] st st' ∧ Rdr st'.h.get g l ks L bad (n + blankGo false (L.drop n)) := by
 have hrl := @run_len L
 have hfew := h.few
 have hle := h.le
 have hsz := h.size
 refine J5 rfl Tryd.func81 rfl Tryd.ntmps81 rfl (by decide) (by simp) fun T hT => ?_
 have K : KnT [(0, _)] T := (.cons (hT 0) .nil)
 have M := Mem.start1 hf h.row
 refine Q5 ?_
 refine w_loop (fun mm1 T st9 => ∃ (k : Nat), mm1 = L.length - k ∧ KnT [(0, .ptr g 0 0)] T ∧ Mem st.h.get st.n [g] st9 [(g, 0, [.str l, ks, .int .i64 (badInt bad), .int .i64 (((k : Nat) : Int))])] ∧ k ≤ L.length ∧ k + blankGo false (L.drop k) = n + blankGo false (L.drop n)) (fun mm1 T st9 hI => ?_) _ _ _ ⟨n, rfl, (.cons (K _ _ rfl) .nil), M.less (.refl _), h.le, rfl⟩
 obtain ⟨k, rfl, K, M, hk, hb⟩ := hI
 refine w_cut (J := fun T st9 => KnT [(0, .ptr g 0 0)] T ∧ Mem st.h.get st.n [g] st9 [(g, 0, [.str l, ks, .int .i64 (badInt bad), .int .i64 (((k : Nat) : Int))])] ∧ (classAt L k = 3 ∨ isC L k 35 = true)) ?_ (fun T st9 hJ => ?_)
 ·refine Qh <| Qa <| o1 K (Qc rfl) rfl fun _ K => ?_
  obtain ⟨v4, st4, ev4, rfl, q4⟩ := rclass0 M.fresh (h.next (M.row1 (k := 0) rfl) (h.run.mem M (by simp)) (by omega))
  refine o1 K (Qn rfl ev4) rfl fun _ K => ?_
  replace M := M.quiet q4
  refine o1 K (os_eqI rfl rfl) rfl fun _ K => ?_
  refine oB K (Qc rfl) rfl fun b6 _ e6 K => ?_
  cases b6
  · replace e6 := of_decide_eq_false e6
    refine og K rfl rfl (Qc rfl) rfl fun _ K => ?_
    obtain ⟨v8, st8, ev8, rfl, q8⟩ := ris0 M.fresh (h.next (M.row1 (k := 0) rfl) (h.run.mem M (by simp)) (by omega)) 35
    refine og K rfl rfl (Qn rfl ev8) rfl fun _ K => ?_
    replace M := M.quiet q8
    refine o1 K (Qj rfl rfl rfl) rfl fun _ K => Qd ?_
    show W _ _ _ _ _ _ _
    refine Qr (K.opd rfl) (fun h9 => ?_) (fun h9 => ?_)
    · refine Q3 ?_
      exact ⟨(.cons (K _ _ rfl) .nil), M.less (.refl _), (by first | exact .inl ‹_› | exact .inr ‹_›)⟩
    · refine Uk ?_
      refine ⟨.inl rfl, _, res_none, ?_⟩
      exact ⟨rfl, M.chg, by rw [← hb, blank_no ‹_› (by simpa using ‹_›)]; exact h.next (M.row1 (k := 0) rfl) (h.run.mem M (by simp)) hk⟩
  · replace e6 := of_decide_eq_true e6
    refine gn K rfl rfl rfl rfl fun _ K => gn K rfl rfl rfl rfl fun _ K => o1 K (Qj rfl rfl rfl) rfl fun _ K => Qd ?_
    show W _ _ _ _ _ _ _
    refine Qr (t := true) (K.opd rfl) (fun _ => ?_) (fun h => by cases h)
    refine Q3 ?_
    exact ⟨(.cons (K _ _ rfl) .nil), M.less (.refl _), (by first | exact .inl ‹_› | exact .inr ‹_›)⟩
 ·obtain ⟨K, M, hor⟩ := hJ
  refine Q5 <| Qh <| Qa <| o1 K (Qc rfl) rfl fun _ K => ?_
  obtain ⟨v11, st11, ev11, rfl, q11⟩ := ris0 M.fresh (h.next (M.row1 (k := 0) rfl) (h.run.mem M (by simp)) (by omega)) 35
  refine o1 K (Qn rfl ev11) rfl fun _ K => ?_
  replace M := M.quiet q11
  refine o1 K (Qb rfl) rfl fun _ K => Qd ?_
  show W _ _ _ _ _ _ _
  refine Qh <| Qa <| o1 K (Qc rfl) rfl fun _ K => o1 K (Jz rfl rfl) rfl fun _ K => o1 K (Qe Qv rfl) rfl fun _ K => o1 K (Qg rfl (M.load (k := 0) rfl (Qk Ju rfl))) rfl fun _ K => o1 K (Jm rfl rfl (by omega) (by omega)) rfl fun _ K => o1 K (Jz rfl rfl) rfl fun _ K => o1 K (Qe Qv rfl) rfl fun _ K => ?_
  refine Qz (k := 0) K M rfl rfl rfl sz_int rfl rfl rfl fun _ M => ?_
  refine Qd ?_
  show W _ _ _ _ _ _ _
  refine Q5 ?_
  have hlt : k < L.length := by
   rcases hor with h | h
   · exact class_lt (by omega)
   · exact isC_lt h
  refine w_loop (fun mm2 T st9 => ∃ (j : Nat), mm2 = L.length - j ∧ KnT [(0, .ptr g 0 0), (2, .bool (isC L k 35))] T ∧ Mem st.h.get st.n [g] st9 [(g, 0, [.str l, ks, .int .i64 (badInt bad), .int .i64 (((j : Nat) : Int))])] ∧ k + 1 ≤ j ∧ j ≤ L.length ∧ j + cG (isC L k 35) (L.drop j) = k + 1 + cG (isC L k 35) (L.drop (k + 1))) (fun mm2 T st9 hI => ?_) _ _ _ ⟨k + 1, rfl, (.cons (K _ _ rfl) (.cons (K _ _ rfl) .nil)), M.less (.refl _), (Nat.le_refl _), hlt, rfl⟩
  obtain ⟨j, rfl, K, M, hkj, hj, hc⟩ := hI
  refine Qh <| Qh ?_
  refine w_drawI (l := [(0, 0), (1, 0), (2, 0), (3, 0), (4, 0), (5, 0), (6, 0), (7, 0), (8, 0), (9, 0), (10, 0), (11, 0), (12, 0), (13, 0), (14, 0), (15, 0), (16, 0), (17, 0)]) (by kernel_rfl) ?_
  refine d1 rfl K (Qc rfl) rfl rfl fun _ K => ?_
  refine dB rfl K (Qc rfl) rfl rfl fun b20 _ e20 K => ?_
  cases b20
  · refine dgn rfl K rfl rfl rfl rfl fun _ _ K => dgn rfl K rfl rfl rfl rfl fun _ _ K => dgn rfl K rfl rfl rfl rfl fun _ _ K => dgn rfl K rfl rfl rfl rfl fun _ _ K => dgn rfl K rfl rfl rfl rfl fun _ _ K => dgn rfl K rfl rfl rfl rfl fun _ _ K => dgn rfl K rfl rfl rfl rfl fun _ _ K => dgn rfl K rfl rfl rfl rfl fun _ _ K => dgn rfl K rfl rfl rfl rfl fun _ _ K => ?_
    refine dgn rfl K rfl rfl rfl rfl fun _ _ K => d1 rfl K (Qj rfl rfl rfl) rfl rfl fun _ K => d1 rfl K (Qc rfl) rfl rfl fun _ K => dgn rfl K rfl rfl rfl rfl fun _ _ K => dgn rfl K rfl rfl rfl rfl fun _ _ K => dgn rfl K rfl rfl rfl rfl fun _ _ K => d1 rfl K (Qj rfl rfl rfl) rfl rfl fun _ K => wd_nil ?_
    show W _ _ _ _ _ _ _
    refine Qr (t := false) (K.opd rfl) (fun h => by cases h) (fun _ => ?_)
    refine Uk ?_
    have hc0 : cG (isC L k 35) (L.drop j) = 0 := cG_stop (by first | exact .inl ‹_› | exact .inr (.inr ‹_›) | exact .inr (.inl (by omega)))
    have hb1 := blank_step hor
    rw [hc0, Nat.add_zero] at hc
    rw [← hc] at hb1
    exact ⟨_, (by omega), j, rfl, (.cons (K _ _ rfl) .nil), M.less (.refl _), hj, (by omega)⟩
  · refine dg rfl K rfl rfl (Qc rfl) rfl rfl fun _ K => dg rfl K rfl rfl (Jz rfl rfl) rfl rfl fun _ K => dg rfl K rfl rfl (Qe Qv rfl) rfl rfl fun _ K => dg rfl K rfl rfl (Qg rfl (M.load (k := 0) rfl (Qk Ju rfl))) rfl rfl fun _ K => dg rfl K rfl rfl (Qc rfl) rfl rfl fun _ K => dg rfl K rfl rfl (Jz rfl rfl) rfl rfl fun _ K => dg rfl K rfl rfl (Qe Jh rfl) rfl rfl fun _ K => dg rfl K rfl rfl (Qg rfl (M.load (k := 0) rfl (Qk Uj rfl))) rfl rfl fun _ K => dg rfl K rfl rfl (Jn un_S_api_Rune rfl rfl (h.run.mem M (by simp)).len) rfl rfl fun _ K => ?_
    refine dg rfl K rfl rfl (os_lss rfl rfl) rfl rfl fun _ K => d1 rfl K (Qj rfl rfl rfl) rfl rfl fun _ K => ?_
    refine dB rfl K (Qc rfl) rfl rfl fun b32 _ e32 K => ?_
    cases b32
    · replace e32 := of_decide_eq_false e32
      refine dgn rfl K rfl rfl rfl rfl fun _ _ K => dgn rfl K rfl rfl rfl rfl fun _ _ K => dgn rfl K rfl rfl rfl rfl fun _ _ K => d1 rfl K (Qj rfl rfl rfl) rfl rfl fun _ K => wd_nil ?_
      show W _ _ _ _ _ _ _
      refine Qr (t := false) (K.opd rfl) (fun h => by cases h) (fun _ => ?_)
      refine Uk ?_
      have hc0 : cG (isC L k 35) (L.drop j) = 0 := cG_stop (by first | exact .inl ‹_› | exact .inr (.inr ‹_›) | exact .inr (.inl (by omega)))
      have hb1 := blank_step hor
      rw [hc0, Nat.add_zero] at hc
      rw [← hc] at hb1
      exact ⟨_, (by omega), j, rfl, (.cons (K _ _ rfl) .nil), M.less (.refl _), hj, (by omega)⟩
    · replace e32 := of_decide_eq_true e32
      refine dg rfl K rfl rfl (Qc rfl) rfl rfl fun _ K => ?_
      obtain ⟨v34, st34, ev34, rfl, q34⟩ := ris0 M.fresh (h.next (M.row1 (k := 0) rfl) (h.run.mem M (by simp)) (by omega)) 10
      refine dga rfl K rfl rfl (Qn rfl ev34) rfl rfl fun _ K => ?_
      have Mp := M
      replace M := M.quiet q34
      refine dg rfl K rfl rfl (os_not rfl) rfl rfl fun _ K => d1 rfl K (Qj rfl rfl rfl) rfl rfl fun _ K => wd_nil ?_
      show W _ _ _ _ _ _ _
      refine Qr (K.opd rfl) (fun h36 => ?_) (fun h36 => ?_)
      ·replace h36 : (isC L j 10) = false := by simpa using h36
       refine Q3 ?_
       show W _ _ _ _ _ _ _
       refine Q5 <| Qa <| o1 K (Qc rfl) rfl fun _ K => o1 K (Jz rfl rfl) rfl fun _ K => o1 K (Qe Qv rfl) rfl fun _ K => o1 K (Qg rfl (M.load (k := 0) rfl (Qk Ju rfl))) rfl fun _ K => o1 K (Jm rfl rfl (by omega) (by omega)) rfl fun _ K => o1 K (Jz rfl rfl) rfl fun _ K => o1 K (Qe Qv rfl) rfl fun _ K => ?_
       refine Qz (k := 0) K M rfl rfl rfl sz_int rfl rfl rfl fun _ M => ?_
       refine Qd ?_
       exact ⟨_, (by omega), j + 1, rfl, (.cons (K _ _ rfl) (.cons (K _ _ rfl) .nil)), M.less (.refl _), (by omega), (by omega), (by rw [e20] at hc ⊢; rw [cG_go (by omega) (by simpa using h36)] at hc; omega)⟩
      ·replace h36 : (isC L j 10) = true := by simpa using h36
       refine Uk ?_
       have hc0 : cG (isC L k 35) (L.drop j) = 0 := cG_stop (by first | exact .inl ‹_› | exact .inr (.inr ‹_›) | exact .inr (.inl (by omega)))
       have hb1 := blank_step hor
       rw [hc0, Nat.add_zero] at hc
       rw [← hc] at hb1
       exact ⟨_, (by omega), j, rfl, (.cons (K _ _ rfl) .nil), M.less (.refl _), hj, (by omega)⟩
end Go.Proofs.YtmjnbdkjekdkgaaDoor
