/-
  Programs: the program's answer, the reference's. TreeProgs.
-/
import Derived.Test.YtmjnbdkjekdkgaaDoorTrD
import Derived.Test.YtmjnbdkjekdkgaaDoorRdH
namespace Go.Proofs.YtmjnbdkjekdkgaaDoor
open Go Go.RowKit
set_option linter.unusedVariables false
set_option linter.unusedSimpArgs false
set_option maxRecDepth 100000
set_option maxHeartbeats 1000000

def declB (d : Dc) : Bool := nameB d.name && (decide (0 ≤ d.order) && decide (d.order < 3))
def predB (p : Pd) : Bool := nameB p.name && (decide (((p.params.length : Nat) : Int) ≤ 6) && (p.params.all declB && (smallB p.body 2000 && formN p.body)))
def progB (p : Pg) : Bool := p.decls.all declB && (p.preds.all predB && (smallB p.main 2000 && formN p.main))
theorem allA_step {α : Type} {l : List α} {i : Nat} {k : α} {p : α → Bool} (h : l[i]? = some k) : (l.drop i).all p = (p k && (l.drop (i + 1)).all p) := by
  obtain ⟨h1, h2⟩ := List.getElem?_eq_some_iff.1 h
  rw [List.drop_eq_getElem_cons h1, List.all_cons, h2]
theorem not_anyA {α : Type} (p : α → Bool) (l : List α) : (!l.any fun k => !p k) = l.all p := by
  induction l with
  | nil => rfl
  | cons k l ih => rw [List.any_cons, List.all_cons, ← ih]; cases p k <;> simp
theorem any_notA {α : Type} (p : α → Bool) (l : List α) : (l.any fun k => !p k) = !l.all p := by rw [← not_anyA, Bool.not_not]
theorem progB_mk (ds : List Dc) (ps : List Pd) (m : Nd) : progB ⟨ds, ps, m⟩ = (ds.all declB && (ps.all predB && (smallB m 2000 && formN m))) := rfl
theorem predB_mk (n : List Nat) (pp : List Dc) (b : Nd) (z : Int) : predB ⟨n, pp, b, z⟩ = (nameB n && (decide (((pp.length : Nat) : Int) ≤ 6) && (pp.all declB && (smallB b 2000 && formN b)))) := rfl
theorem lt3' (z : Int) : (z < 3) = (z ≤ 2) := propext (by omega)
theorem RowsR.memR {K : Type} {h0 : Hp} {n0 : Nat} {st : St} {M : List (Nat × Nat × List AV)} {z : Nat} {R : K → List AV → Prop} {l : List K} {kk : AV} {ls : List (List AV)} (H : RowsR h0 z R l kk ls) (hM : Mem h0 n0 [] st M) : RowsR st.h.get z R l kk ls := H.mono hM.rows fun _ _ h => h
theorem mem_get {α : Type} {l : List α} {i : Nat} {k : α} (h : l[i]? = some k) : k ∈ l := List.mem_of_getElem? h

theorem isDecl_ev {nm : List Nat} {od at_ : Int} {st : St} (hf : Fresh st) : ∃ v st', Ev Tryd.prog envD 64 [.agg [.str nm, .int .i64 od, .int .i64 at_]] st v st' ∧ v = .bool (declB ⟨nm, od, at_⟩) ∧ Qt st st' := by
 refine ev_fn rfl Tryd.func64 rfl Tryd.ntmps64 rfl (by decide) (by simp) fun T hT => ?_
 have K : KnT [(0, _)] T := (.cons (hT 0) .nil)
 have M := Mem.start hf
 refine w_seq ?_
 refine w_region ?_
 refine wr_box K M rfl rfl (by decide) fun c1 _ _ K M => ?_
 refine o1 K (os_assign rfl) rfl fun _ K => ?_
 refine wr_nil ?_
 show W _ _ _ _ _ _ _
 refine w_seq ?_
 refine w_region ?_
 refine o1 K (os_fieldAddr fo_api_Decl_0 rfl) rfl fun _ K => ?_
 refine o1 K (os_load rfl (M.load (k := 0) rfl (part_one tk_string rfl))) rfl fun _ K => ?_
 obtain ⟨v5, st5, ev5, rfl, q5⟩ := isName_ev M.fresh nm
 refine o1 K (os_call rfl ev5) rfl fun _ K => ?_
 replace M := M.quiet q5
 refine oB K (os_move rfl) rfl fun b6 _ e6 K => ?_
 cases b6
 · refine gn K rfl rfl rfl rfl fun _ K => ?_
   refine gn K rfl rfl rfl rfl fun _ K => ?_
   refine gn K rfl rfl rfl rfl fun _ K => ?_
   refine o1 K (os_pick rfl rfl rfl) rfl fun _ K => ?_
   refine o1 K (os_move rfl) rfl fun _ K => ?_
   refine gn K rfl rfl rfl rfl fun _ K => ?_
   refine gn K rfl rfl rfl rfl fun _ K => ?_
   refine gn K rfl rfl rfl rfl fun _ K => ?_
   refine o1 K (os_pick rfl rfl rfl) rfl fun _ K => ?_
   refine o1 K (os_assign rfl) rfl fun _ K => ?_
   refine wr_nil ?_
   show W _ _ _ _ _ _ _
   refine w_ret ?_
   refine ⟨.inr rfl, _, (res_one (rs_tmp K rfl)), ?_⟩
   refine ⟨congrArg AV.bool ?_, M.qt⟩
   rw [declB]
   simp_all <;> first | done | rfl | omega | (intros; omega) | (intros; simp_all; done)
 refine og K rfl rfl (os_fieldAddr fo_api_Decl_1 rfl) rfl fun _ K => ?_
 refine og K rfl rfl (os_load rfl (M.load (k := 0) rfl (part_one tk_int rfl))) rfl fun _ K => ?_
 refine og K rfl rfl (os_geq rfl rfl) rfl fun _ K => ?_
 refine o1 K (os_pick rfl rfl rfl) rfl fun _ K => ?_
 refine oB K (os_move rfl) rfl fun b11 _ e11 K => ?_
 cases b11
 · replace e11 := of_decide_eq_false e11
   refine gn K rfl rfl rfl rfl fun _ K => ?_
   refine gn K rfl rfl rfl rfl fun _ K => ?_
   refine gn K rfl rfl rfl rfl fun _ K => ?_
   refine o1 K (os_pick rfl rfl rfl) rfl fun _ K => ?_
   refine o1 K (os_assign rfl) rfl fun _ K => ?_
   refine wr_nil ?_
   show W _ _ _ _ _ _ _
   refine w_ret ?_
   refine ⟨.inr rfl, _, (res_one (rs_tmp K rfl)), ?_⟩
   refine ⟨congrArg AV.bool ?_, M.qt⟩
   rw [declB]
   simp_all <;> first | done | rfl | omega | (intros; omega) | (intros; simp_all; done)
 replace e11 := of_decide_eq_true e11
 refine og K rfl rfl (os_fieldAddr fo_api_Decl_1 rfl) rfl fun _ K => ?_
 refine og K rfl rfl (os_load rfl (M.load (k := 0) rfl (part_one tk_int rfl))) rfl fun _ K => ?_
 refine og K rfl rfl (os_lss rfl rfl) rfl fun _ K => ?_
 refine o1 K (os_pick rfl rfl rfl) rfl fun _ K => ?_
 refine o1 K (os_assign rfl) rfl fun _ K => ?_
 refine wr_nil ?_
 show W _ _ _ _ _ _ _
 refine w_ret ?_
 refine ⟨.inr rfl, _, (res_one (rs_tmp K rfl)), ?_⟩
 refine ⟨congrArg AV.bool ?_, M.qt⟩
 rw [declB]
 simp_all <;> first | done | rfl | omega | (intros; omega) | (intros; simp_all; done)

theorem areDecls1_ev {nm : List Nat} {od at_ : Int} {st : St} (hf : Fresh st) : ∃ v st', Ev Tryd.prog envD 63 [.agg [.str nm, .int .i64 od, .int .i64 at_]] st v st' ∧ v = .bool (!declB ⟨nm, od, at_⟩) ∧ Qt st st' := by
 refine ev_fn rfl Tryd.func63 rfl Tryd.ntmps63 rfl (by decide) (by simp) fun T hT => ?_
 have K : KnT [(0, _)] T := (.cons (hT 0) .nil)
 have M := Mem.start hf
 refine w_seq ?_
 refine w_region ?_
 refine wr_box K M rfl rfl (by decide) fun c1 _ _ K M => ?_
 refine o1 K (os_assign rfl) rfl fun _ K => ?_
 refine wr_nil ?_
 show W _ _ _ _ _ _ _
 refine w_seq ?_
 refine w_region ?_
 refine o1 K (os_load rfl (M.load (k := 0) rfl (part_agg tk_api_Decl rfl))) rfl fun _ K => ?_
 obtain ⟨v4, st4, ev4, rfl, q4⟩ := isDecl_ev M.fresh
 refine o1 K (os_call rfl ev4) rfl fun _ K => ?_
 replace M := M.quiet q4
 refine o1 K (os_not rfl) rfl fun _ K => ?_
 refine o1 K (os_assign rfl) rfl fun _ K => ?_
 refine wr_nil ?_
 show W _ _ _ _ _ _ _
 refine w_ret ?_
 refine ⟨.inr rfl, _, (res_one (rs_tmp K rfl)), ?_⟩
 exact ⟨rfl, M.qt⟩

theorem indexDc_ev {st : St} (hf : Fresh st) {l : List Dc} {kk : AV} {ls : List (List AV)} (hD : DsR st.h.get l kk ls) {fo : FuncId} {p : Dc → Bool} (hC : ∀ (k : Dc), k ∈ l → ∀ (st1 : St) (cs : List AV), Qt st st1 → DcR k cs → ∃ v st', Ev Tryd.prog envD fo ([.agg cs]) st1 v st' ∧ v = .bool (p k) ∧ Qt st1 st') : ∃ v st', Ev Tryd.prog envD 79 [kk, (AV.fn fo [] [])] st v st' ∧ v = .int .i64 (idxA p l 0) ∧ Qt st st' := by
 have hln := hD.ln
 have hbn := hD.bnd
 refine ev_fn rfl Tryd.func79 rfl Tryd.ntmps79 rfl (by decide) (by simp) fun T hT => ?_
 have K : KnT [(0, _), (1, _)] T := (.cons (hT 0) (.cons (hT 1) .nil))
 have M := Mem.start hf
 refine w_seq ?_
 refine w_region ?_
 refine o1 K (os_assign rfl) rfl fun _ K => ?_
 refine wr_nil ?_
 show W _ _ _ _ _ _ _
 refine w_seq ?_
 refine w_seq ?_
 refine w_region ?_
 refine o1 K (os_move rfl) rfl fun _ K => ?_
 refine o1 K (os_lenL un_S_api_Decl rfl rfl hD.len) rfl fun _ K => ?_
 refine o1 K (os_move rfl) rfl fun _ K => ?_
 refine wr_nil ?_
 show W _ _ _ _ _ _ _
 refine w_block ?_
 refine w_loop (fun mm1 T st9 => ∃ (i : Nat), mm1 = l.length - i ∧ KnT [(0, kk), (1, (AV.fn fo [] [])), (7, .int .i64 (((l.length : Nat) : Int))), (8, .int .i64 (((i : Nat) : Int)))] T ∧ Mem st.h.get st.n [] st9 [] ∧ i ≤ l.length ∧ idxA p l 0 = idxA p (l.drop i) i) (fun mm1 T st9 hI => ?_) _ _ _ ⟨0, rfl, (.cons (K _ _ rfl) (.cons (K _ _ rfl) (.cons (K _ _ rfl) (.cons (K _ _ rfl) .nil)))), M.less (.refl _), (Nat.zero_le _), rfl⟩
 obtain ⟨i, rfl, K, M, hi, hx⟩ := hI
 refine w_seq ?_
 refine w_region ?_
 refine o1 K (os_lss rfl rfl) rfl fun _ K => ?_
 refine wr_nil ?_
 show W _ _ _ _ _ _ _
 refine w_seq ?_
 refine w_cond (K.opd rfl) (fun h9 => ?_) (fun h9 => ?_)
 · have hb9 := h9
   replace h9 := of_decide_eq_true h9
   refine w_skip ?_
   show W _ _ _ _ _ _ _
   refine w_seq ?_
   refine w_block ?_
   refine w_seq ?_
   refine w_region ?_
   refine o1 K (os_move rfl) rfl fun _ K => ?_
   refine o1 K (os_assign rfl) rfl fun _ K => ?_
   refine wr_nil ?_
   show W _ _ _ _ _ _ _
   refine w_seq ?_
   refine w_region ?_
   refine o1 K (os_move rfl) rfl fun _ K => ?_
   refine o1 K (os_move rfl) rfl fun _ K => ?_
   refine o1 K (os_move rfl) rfl fun _ K => ?_
   obtain ⟨⟨dn14, do14, da14⟩, hi14⟩ : ∃ k, l[i]? = some k := ⟨_, List.getElem?_eq_getElem (by omega)⟩
   have hm14 := mem_get hi14
   obtain ⟨_, hc14, rfl, hy14⟩ := hD.at_ _ _ hi14
   obtain ⟨x14, m14, f14, q14, _, la14, lo14, lp14⟩ := (hD.r.mem M (by simp)).load (i := i) (cs := _) hc14
   refine o1 K (os_indexAddr (j := i) el_S_api_Decl (congrArg some q14) rfl (by rw [hD.ln]; omega)) rfl fun _ K => ?_
   refine o1 K (os_load rfl (la14 _ tk_api_Decl)) rfl fun _ K => ?_
   obtain ⟨v16, st16, ev16, rfl, q16⟩ := hC ⟨dn14, do14, da14⟩ hm14 _ _ M.qt ⟨rfl, hy14⟩
   refine o1 K (os_callv rfl rfl ev16) rfl fun _ K => ?_
   replace M := M.quiet q16
   refine wr_nil ?_
   show W _ _ _ _ _ _ _
   refine w_cond (K.opd rfl) (fun h16 => ?_) (fun h16 => ?_)
   · have hb16 := h16
     refine w_seq ?_
     refine w_region ?_
     refine o1 K (os_move rfl) rfl fun _ K => ?_
     refine o1 K (os_assign rfl) rfl fun _ K => ?_
     refine wr_nil ?_
     show W _ _ _ _ _ _ _
     refine w_ret ?_
     refine ⟨.inr rfl, _, (res_one (rs_tmp K rfl)), ?_⟩
     exact ⟨by rw [hx, idxA_step hi14, if_pos h16], M.qt⟩
   have hb16 := h16
   refine w_skip ?_
   show W _ _ _ _ _ _ _
   refine w_region ?_
   refine o1 K (os_add rfl rfl (by omega) (by omega)) rfl fun _ K => ?_
   refine o1 K (os_move rfl) rfl fun _ K => ?_
   refine wr_nil ?_
   exact ⟨_, (by omega), i + 1, rfl, (.cons (K _ _ rfl) (.cons (K _ _ rfl) (.cons (K _ _ rfl) (.cons (K _ _ rfl) .nil)))), M.less (.refl _), (by omega), (by rw [hx, idxA_step hi14, if_neg (by rw [h16]; decide)])⟩
 have hb9 := h9
 replace h9 := of_decide_eq_false h9
 refine w_exit ?_
 show W _ _ _ _ _ _ _
 refine w_seq ?_
 refine w_region ?_
 refine o1 K (os_assign rfl) rfl fun _ K => ?_
 refine wr_nil ?_
 show W _ _ _ _ _ _ _
 refine w_ret ?_
 refine ⟨.inr rfl, _, (res_one (rs_tmp K rfl)), ?_⟩
 exact ⟨by rw [hx, drop_end (by omega)]; rfl, M.qt⟩

theorem containsDc_ev {st : St} (hf : Fresh st) {l : List Dc} {kk : AV} {ls : List (List AV)} (hD : DsR st.h.get l kk ls) {fo : FuncId} {p : Dc → Bool} (hC : ∀ (k : Dc), k ∈ l → ∀ (st1 : St) (cs : List AV), Qt st st1 → DcR k cs → ∃ v st', Ev Tryd.prog envD fo ([.agg cs]) st1 v st' ∧ v = .bool (p k) ∧ Qt st1 st') : ∃ v st', Ev Tryd.prog envD 62 [kk, (AV.fn fo [] [])] st v st' ∧ v = .bool (l.any p) ∧ Qt st st' := by
 have hln := hD.ln
 have hbn := hD.bnd
 refine ev_fn rfl Tryd.func62 rfl Tryd.ntmps62 rfl (by decide) (by simp) fun T hT => ?_
 have K : KnT [(0, _), (1, _)] T := (.cons (hT 0) (.cons (hT 1) .nil))
 have M := Mem.start hf
 refine w_seq ?_
 refine w_region ?_
 refine o1 K (os_assign rfl) rfl fun _ K => ?_
 refine wr_nil ?_
 show W _ _ _ _ _ _ _
 refine w_seq ?_
 refine w_region ?_
 refine o1 K (os_move rfl) rfl fun _ K => ?_
 refine o1 K (os_move rfl) rfl fun _ K => ?_
 obtain ⟨v7, st7, ev7, rfl, q7⟩ := indexDc_ev M.fresh (DsR.mono M.rows hD) (fun k hk st1 cs q hr => hC k hk st1 cs (M.qt.trans q) hr)
 refine o1 K (os_call rfl ev7) rfl fun _ K => ?_
 replace M := M.quiet q7
 refine o1 K (os_geq rfl rfl) rfl fun _ K => ?_
 refine o1 K (os_assign rfl) rfl fun _ K => ?_
 refine wr_nil ?_
 show W _ _ _ _ _ _ _
 refine w_ret ?_
 refine ⟨.inr rfl, _, (res_one (rs_tmp K rfl)), ?_⟩
 exact ⟨by rw [← idxA_any p l 0], M.qt⟩

theorem areDecls_ev {st : St} (hf : Fresh st) {l : List Dc} {kk : AV} {ls : List (List AV)} (hD : DsR st.h.get l kk ls) : ∃ v st', Ev Tryd.prog envD 42 [kk] st v st' ∧ v = .bool (l.all declB) ∧ Qt st st' := by
 refine ev_fn rfl Tryd.func42 rfl Tryd.ntmps42 rfl (by decide) (by simp) fun T hT => ?_
 have K : KnT [(0, _)] T := (.cons (hT 0) .nil)
 have M := Mem.start hf
 refine w_seq ?_
 refine w_region ?_
 refine o1 K (os_assign rfl) rfl fun _ K => ?_
 refine wr_nil ?_
 show W _ _ _ _ _ _ _
 refine w_seq ?_
 refine w_region ?_
 refine o1 K (os_move rfl) rfl fun _ K => ?_
 obtain ⟨v4, st4, ev4, rfl, q4⟩ := containsDc_ev (p := fun k => !declB k) M.fresh (DsR.mono M.rows hD) (fun k hk st1 cs q hr1 => by
   obtain ⟨k1, k2, k3⟩ := k
   obtain ⟨rfl, hy⟩ := hr1
   exact areDecls1_ev q.fresh)
 refine o1 K (os_call rfl ev4) rfl fun _ K => ?_
 replace M := M.quiet q4
 refine o1 K (os_not rfl) rfl fun _ K => ?_
 refine o1 K (os_assign rfl) rfl fun _ K => ?_
 refine wr_nil ?_
 show W _ _ _ _ _ _ _
 refine w_ret ?_
 refine ⟨.inr rfl, _, (res_one (rs_tmp K rfl)), ?_⟩
 exact ⟨by rw [not_anyA], M.qt⟩

theorem isPred_ev {pn : List Nat} {pp : List Dc} {o s : List Nat} {z a pa : Int} {l : List Nd} {st : St} {cs : List AV} (hf : Fresh st) (hr : PdR st.h.get ⟨pn, pp, .mk o s z a l, pa⟩ cs) : ∃ v st', Ev Tryd.prog envD 45 [.agg cs] st v st' ∧ v = .bool (predB ⟨pn, pp, .mk o s z a l, pa⟩) ∧ Qt st st' := by
 have hr0 := hr
 have hr0 := hr
 obtain ⟨kd, ld, o, s, z, a, kk, rfl, hD, hn, hy⟩ := hr0
 obtain ⟨kx, ls, ex, hK, hb⟩ := hn.open5
 injection ex with x1 x; injection x with x2 x; injection x with x3 x; injection x with x4 x; injection x with x5 x
 injection x1 with x1; injection x2 with x2; injection x3 with _ x3; injection x4 with _ x4
 subst x1 x2 x3 x4 x5
 replace hD : DsR st.h.get pp kd ld := hD
 replace hn : RdN st.h.get (.mk o s z a l) _ := hn
 replace hy : Bytes pn := hy
 have hl := hK.bnd
 have hd := hD.bnd
 refine ev_fn rfl Tryd.func45 rfl Tryd.ntmps45 rfl (by decide) (by simp) fun T hT => ?_
 have K : KnT [(0, _)] T := (.cons (hT 0) .nil)
 have M := Mem.start hf
 refine w_seq ?_
 refine w_region ?_
 refine wr_box K M rfl (cl_cons rfl (cl_cons hD.cell (cl_cons rfl (cl_cons rfl (cl_cons rfl (cl_cons rfl (cl_cons hK.cell (cl_cons rfl cl_nil)))))))) (by decide) fun c1 _ _ K M => ?_
 refine o1 K (os_assign rfl) rfl fun _ K => ?_
 refine wr_nil ?_
 show W _ _ _ _ _ _ _
 refine w_seq ?_
 refine w_region ?_
 refine o1 K (os_fieldAddr fo_api_Pred_0 rfl) rfl fun _ K => ?_
 refine o1 K (os_load rfl (M.load (k := 0) rfl (part_one tk_string rfl))) rfl fun _ K => ?_
 obtain ⟨v5, st5, ev5, rfl, q5⟩ := isName_ev M.fresh pn
 refine o1 K (os_call rfl ev5) rfl fun _ K => ?_
 replace M := M.quiet q5
 refine oB K (os_move rfl) rfl fun b6 _ e6 K => ?_
 cases b6
 · refine gn K rfl rfl rfl rfl fun _ K => ?_
   refine gn K rfl rfl rfl rfl fun _ K => ?_
   refine gn K rfl rfl rfl rfl fun _ K => ?_
   refine gn K rfl rfl rfl rfl fun _ K => ?_
   refine o1 K (os_pick rfl rfl rfl) rfl fun _ K => ?_
   refine o1 K (os_move rfl) rfl fun _ K => ?_
   refine gn K rfl rfl rfl rfl fun _ K => ?_
   refine gn K rfl rfl rfl rfl fun _ K => ?_
   refine gn K rfl rfl rfl rfl fun _ K => ?_
   refine o1 K (os_pick rfl rfl rfl) rfl fun _ K => ?_
   refine o1 K (os_move rfl) rfl fun _ K => ?_
   refine gn K rfl rfl rfl rfl fun _ K => ?_
   refine gn K rfl rfl rfl rfl fun _ K => ?_
   refine gn K rfl rfl rfl rfl fun _ K => ?_
   refine o1 K (os_pick rfl rfl rfl) rfl fun _ K => ?_
   refine o1 K (os_assign rfl) rfl fun _ K => ?_
   refine wr_nil ?_
   show W _ _ _ _ _ _ _
   refine w_ret ?_
   refine ⟨.inr rfl, _, (res_one (rs_tmp K rfl)), ?_⟩
   refine ⟨congrArg AV.bool ?_, M.qt⟩
   rw [predB_mk]
   try clear hr
   try clear hr0
   try clear hD
   try clear hn
   try clear hK
   try clear hb
   try generalize pp.all declB = q1 at *
   try generalize smallB (.mk o s z a l) 2000 = q2 at *
   try generalize formN (.mk o s z a l) = q3 at *
   simp_all <;> first | done | rfl | omega | (intros; omega) | (intros; simp_all; done)
 refine og K rfl rfl (os_fieldAddr fo_api_Pred_1 rfl) rfl fun _ K => ?_
 refine og K rfl rfl (os_load rfl (M.load (k := 0) rfl (part_one tk_S_api_Decl rfl))) rfl fun _ K => ?_
 refine og K rfl rfl (os_lenL un_S_api_Decl rfl rfl hD.len) rfl fun _ K => ?_
 refine og K rfl rfl (os_leq rfl rfl) rfl fun _ K => ?_
 refine o1 K (os_pick rfl rfl rfl) rfl fun _ K => ?_
 refine oB K (os_move rfl) rfl fun b12 _ e12 K => ?_
 cases b12
 · replace e12 := of_decide_eq_false e12
   refine gn K rfl rfl rfl rfl fun _ K => ?_
   refine gn K rfl rfl rfl rfl fun _ K => ?_
   refine gn K rfl rfl rfl rfl fun _ K => ?_
   refine o1 K (os_pick rfl rfl rfl) rfl fun _ K => ?_
   refine o1 K (os_move rfl) rfl fun _ K => ?_
   refine gn K rfl rfl rfl rfl fun _ K => ?_
   refine gn K rfl rfl rfl rfl fun _ K => ?_
   refine gn K rfl rfl rfl rfl fun _ K => ?_
   refine o1 K (os_pick rfl rfl rfl) rfl fun _ K => ?_
   refine o1 K (os_assign rfl) rfl fun _ K => ?_
   refine wr_nil ?_
   show W _ _ _ _ _ _ _
   refine w_ret ?_
   refine ⟨.inr rfl, _, (res_one (rs_tmp K rfl)), ?_⟩
   refine ⟨congrArg AV.bool ?_, M.qt⟩
   rw [predB_mk]
   try clear hr
   try clear hr0
   try clear hD
   try clear hn
   try clear hK
   try clear hb
   try generalize pp.all declB = q1 at *
   try generalize smallB (.mk o s z a l) 2000 = q2 at *
   try generalize formN (.mk o s z a l) = q3 at *
   simp_all <;> first | done | rfl | omega | (intros; omega) | (intros; simp_all; done)
 replace e12 := of_decide_eq_true e12
 refine og K rfl rfl (os_fieldAddr fo_api_Pred_1 rfl) rfl fun _ K => ?_
 refine og K rfl rfl (os_load rfl (M.load (k := 0) rfl (part_one tk_S_api_Decl rfl))) rfl fun _ K => ?_
 obtain ⟨v15, st15, ev15, rfl, q15⟩ := areDecls_ev M.fresh (DsR.mono M.rows hD)
 refine og K rfl rfl (os_call rfl ev15) rfl fun _ K => ?_
 replace M := M.quiet q15
 refine o1 K (os_pick rfl rfl rfl) rfl fun _ K => ?_
 refine oB K (os_move rfl) rfl fun b17 _ e17 K => ?_
 cases b17
 · refine gn K rfl rfl rfl rfl fun _ K => ?_
   refine gn K rfl rfl rfl rfl fun _ K => ?_
   refine gn K rfl rfl rfl rfl fun _ K => ?_
   refine o1 K (os_pick rfl rfl rfl) rfl fun _ K => ?_
   refine o1 K (os_assign rfl) rfl fun _ K => ?_
   refine wr_nil ?_
   show W _ _ _ _ _ _ _
   refine w_ret ?_
   refine ⟨.inr rfl, _, (res_one (rs_tmp K rfl)), ?_⟩
   refine ⟨congrArg AV.bool ?_, M.qt⟩
   rw [predB_mk]
   try clear hr
   try clear hr0
   try clear hD
   try clear hn
   try clear hK
   try clear hb
   try generalize pp.all declB = q1 at *
   try generalize smallB (.mk o s z a l) 2000 = q2 at *
   try generalize formN (.mk o s z a l) = q3 at *
   simp_all <;> first | done | rfl | omega | (intros; omega) | (intros; simp_all; done)
 refine og K rfl rfl (os_fieldAddr fo_api_Pred_2 rfl) rfl fun _ K => ?_
 refine og K rfl rfl (os_load rfl (M.load (k := 0) rfl (part_agg tk_api_Node rfl))) rfl fun _ K => ?_
 obtain ⟨v20, st20, ev20, rfl, q20⟩ := tIsFormula_ev M.fresh (hn.mono M.rows)
 refine og K rfl rfl (os_call rfl ev20) rfl fun _ K => ?_
 replace M := M.quiet q20
 refine o1 K (os_pick rfl rfl rfl) rfl fun _ K => ?_
 refine o1 K (os_assign rfl) rfl fun _ K => ?_
 refine wr_nil ?_
 show W _ _ _ _ _ _ _
 refine w_ret ?_
 refine ⟨.inr rfl, _, (res_one (rs_tmp K rfl)), ?_⟩
 refine ⟨congrArg AV.bool ?_, M.qt⟩
 rw [predB_mk]
 try clear hr
 try clear hr0
 try clear hD
 try clear hn
 try clear hK
 try clear hb
 try generalize pp.all declB = q1 at *
 try generalize smallB (.mk o s z a l) 2000 = q2 at *
 try generalize formN (.mk o s z a l) = q3 at *
 simp_all <;> first | done | rfl | omega | (intros; omega) | (intros; simp_all; done)

theorem is1_ev {pn : List Nat} {pp : List Dc} {o s : List Nat} {z a pa : Int} {l : List Nd} {st : St} {cs : List AV} (hf : Fresh st) (hr : PdR st.h.get ⟨pn, pp, .mk o s z a l, pa⟩ cs) : ∃ v st', Ev Tryd.prog envD 44 [.agg cs] st v st' ∧ v = .bool (!predB ⟨pn, pp, .mk o s z a l, pa⟩) ∧ Qt st st' := by
 have hr0 := hr
 have hr0 := hr
 obtain ⟨kd, ld, o, s, z, a, kk, rfl, hD, hn, hy⟩ := hr0
 obtain ⟨kx, ls, ex, hK, hb⟩ := hn.open5
 injection ex with x1 x; injection x with x2 x; injection x with x3 x; injection x with x4 x; injection x with x5 x
 injection x1 with x1; injection x2 with x2; injection x3 with _ x3; injection x4 with _ x4
 subst x1 x2 x3 x4 x5
 replace hD : DsR st.h.get pp kd ld := hD
 replace hn : RdN st.h.get (.mk o s z a l) _ := hn
 replace hy : Bytes pn := hy
 have hl := hK.bnd
 have hd := hD.bnd
 refine ev_fn rfl Tryd.func44 rfl Tryd.ntmps44 rfl (by decide) (by simp) fun T hT => ?_
 have K : KnT [(0, _)] T := (.cons (hT 0) .nil)
 have M := Mem.start hf
 refine w_seq ?_
 refine w_region ?_
 refine wr_box K M rfl (cl_cons rfl (cl_cons hD.cell (cl_cons rfl (cl_cons rfl (cl_cons rfl (cl_cons rfl (cl_cons hK.cell (cl_cons rfl cl_nil)))))))) (by decide) fun c1 _ _ K M => ?_
 refine o1 K (os_assign rfl) rfl fun _ K => ?_
 refine wr_nil ?_
 show W _ _ _ _ _ _ _
 refine w_seq ?_
 refine w_region ?_
 refine o1 K (os_load rfl (M.load (k := 0) rfl (part_agg tk_api_Pred rfl))) rfl fun _ K => ?_
 obtain ⟨v4, st4, ev4, rfl, q4⟩ := isPred_ev M.fresh (hr.mono M.rows)
 refine o1 K (os_call rfl ev4) rfl fun _ K => ?_
 replace M := M.quiet q4
 refine o1 K (os_not rfl) rfl fun _ K => ?_
 refine o1 K (os_assign rfl) rfl fun _ K => ?_
 refine wr_nil ?_
 show W _ _ _ _ _ _ _
 refine w_ret ?_
 refine ⟨.inr rfl, _, (res_one (rs_tmp K rfl)), ?_⟩
 exact ⟨rfl, M.qt⟩

theorem indexPd_ev {st : St} (hf : Fresh st) {l : List Pd} {kk : AV} {ls : List (List AV)} (hD : PsR st.h.get l kk ls) {fo : FuncId} {p : Pd → Bool} (hC : ∀ (k : Pd), k ∈ l → ∀ (st1 : St) (cs : List AV), Qt st st1 → PdR st1.h.get k cs → ∃ v st', Ev Tryd.prog envD fo ([.agg cs]) st1 v st' ∧ v = .bool (p k) ∧ Qt st1 st') : ∃ v st', Ev Tryd.prog envD 65 [kk, (AV.fn fo [] [])] st v st' ∧ v = .int .i64 (idxA p l 0) ∧ Qt st st' := by
 have hln := hD.ln
 have hbn := hD.bnd
 refine ev_fn rfl Tryd.func65 rfl Tryd.ntmps65 rfl (by decide) (by simp) fun T hT => ?_
 have K : KnT [(0, _), (1, _)] T := (.cons (hT 0) (.cons (hT 1) .nil))
 have M := Mem.start hf
 refine w_seq ?_
 refine w_region ?_
 refine o1 K (os_assign rfl) rfl fun _ K => ?_
 refine wr_nil ?_
 show W _ _ _ _ _ _ _
 refine w_seq ?_
 refine w_seq ?_
 refine w_region ?_
 refine o1 K (os_move rfl) rfl fun _ K => ?_
 refine o1 K (os_lenL un_S_api_Pred rfl rfl hD.len) rfl fun _ K => ?_
 refine o1 K (os_move rfl) rfl fun _ K => ?_
 refine wr_nil ?_
 show W _ _ _ _ _ _ _
 refine w_block ?_
 refine w_loop (fun mm1 T st9 => ∃ (i : Nat), mm1 = l.length - i ∧ KnT [(0, kk), (1, (AV.fn fo [] [])), (7, .int .i64 (((l.length : Nat) : Int))), (8, .int .i64 (((i : Nat) : Int)))] T ∧ Mem st.h.get st.n [] st9 [] ∧ i ≤ l.length ∧ idxA p l 0 = idxA p (l.drop i) i) (fun mm1 T st9 hI => ?_) _ _ _ ⟨0, rfl, (.cons (K _ _ rfl) (.cons (K _ _ rfl) (.cons (K _ _ rfl) (.cons (K _ _ rfl) .nil)))), M.less (.refl _), (Nat.zero_le _), rfl⟩
 obtain ⟨i, rfl, K, M, hi, hx⟩ := hI
 refine w_seq ?_
 refine w_region ?_
 refine o1 K (os_lss rfl rfl) rfl fun _ K => ?_
 refine wr_nil ?_
 show W _ _ _ _ _ _ _
 refine w_seq ?_
 refine w_cond (K.opd rfl) (fun h9 => ?_) (fun h9 => ?_)
 · have hb9 := h9
   replace h9 := of_decide_eq_true h9
   refine w_skip ?_
   show W _ _ _ _ _ _ _
   refine w_seq ?_
   refine w_block ?_
   refine w_seq ?_
   refine w_region ?_
   refine o1 K (os_move rfl) rfl fun _ K => ?_
   refine o1 K (os_assign rfl) rfl fun _ K => ?_
   refine wr_nil ?_
   show W _ _ _ _ _ _ _
   refine w_seq ?_
   refine w_region ?_
   refine o1 K (os_move rfl) rfl fun _ K => ?_
   refine o1 K (os_move rfl) rfl fun _ K => ?_
   refine o1 K (os_move rfl) rfl fun _ K => ?_
   obtain ⟨⟨pn14, pp14, ⟨_, _, _, _, l14⟩, pa14⟩, hi14⟩ : ∃ k, l[i]? = some k := ⟨_, List.getElem?_eq_getElem (by omega)⟩
   have hm14 := mem_get hi14
   obtain ⟨_, hc14, hP14⟩ := hD.at_ _ _ hi14
   have hP140 := hP14
   obtain ⟨kd14, ld14, o14, s14, z14, a14, kk14, rfl, hD14, hn14, hy14⟩ := hP140
   obtain ⟨kx14, ls14, ex14, hK14, hb14⟩ := hn14.open5
   injection ex14 with x1 x; injection x with x2 x; injection x with x3 x; injection x with x4 x; injection x with x5 x
   injection x1 with x1; injection x2 with x2; injection x3 with _ x3; injection x4 with _ x4
   subst x1 x2 x3 x4 x5
   replace hD14 : DsR st.h.get pp14 kd14 ld14 := hD14
   replace hn14 : RdN st.h.get (.mk o14 s14 z14 a14 l14) _ := hn14
   replace hy14 : Bytes pn14 := hy14
   have hl14 := hK14.bnd
   have hd14 := hD14.bnd
   obtain ⟨x14, m14, f14, q14, _, la14, lo14, lp14⟩ := (hD.r.mem M (by simp)).load (i := i) (cs := _) hc14
   refine o1 K (os_indexAddr (j := i) el_S_api_Pred (congrArg some q14) rfl (by rw [hD.ln]; omega)) rfl fun _ K => ?_
   refine o1 K (os_load rfl (la14 _ tk_api_Pred)) rfl fun _ K => ?_
   obtain ⟨v16, st16, ev16, rfl, q16⟩ := hC ⟨pn14, pp14, .mk o14 s14 z14 a14 l14, pa14⟩ hm14 _ _ M.qt (hP14.mono M.rows)
   refine o1 K (os_callv rfl rfl ev16) rfl fun _ K => ?_
   replace M := M.quiet q16
   refine wr_nil ?_
   show W _ _ _ _ _ _ _
   refine w_cond (K.opd rfl) (fun h16 => ?_) (fun h16 => ?_)
   · have hb16 := h16
     refine w_seq ?_
     refine w_region ?_
     refine o1 K (os_move rfl) rfl fun _ K => ?_
     refine o1 K (os_assign rfl) rfl fun _ K => ?_
     refine wr_nil ?_
     show W _ _ _ _ _ _ _
     refine w_ret ?_
     refine ⟨.inr rfl, _, (res_one (rs_tmp K rfl)), ?_⟩
     exact ⟨by rw [hx, idxA_step hi14, if_pos h16], M.qt⟩
   have hb16 := h16
   refine w_skip ?_
   show W _ _ _ _ _ _ _
   refine w_region ?_
   refine o1 K (os_add rfl rfl (by omega) (by omega)) rfl fun _ K => ?_
   refine o1 K (os_move rfl) rfl fun _ K => ?_
   refine wr_nil ?_
   exact ⟨_, (by omega), i + 1, rfl, (.cons (K _ _ rfl) (.cons (K _ _ rfl) (.cons (K _ _ rfl) (.cons (K _ _ rfl) .nil)))), M.less (.refl _), (by omega), (by rw [hx, idxA_step hi14, if_neg (by rw [h16]; decide)])⟩
 have hb9 := h9
 replace h9 := of_decide_eq_false h9
 refine w_exit ?_
 show W _ _ _ _ _ _ _
 refine w_seq ?_
 refine w_region ?_
 refine o1 K (os_assign rfl) rfl fun _ K => ?_
 refine wr_nil ?_
 show W _ _ _ _ _ _ _
 refine w_ret ?_
 refine ⟨.inr rfl, _, (res_one (rs_tmp K rfl)), ?_⟩
 exact ⟨by rw [hx, drop_end (by omega)]; rfl, M.qt⟩

theorem containsPd_ev {st : St} (hf : Fresh st) {l : List Pd} {kk : AV} {ls : List (List AV)} (hD : PsR st.h.get l kk ls) {fo : FuncId} {p : Pd → Bool} (hC : ∀ (k : Pd), k ∈ l → ∀ (st1 : St) (cs : List AV), Qt st st1 → PdR st1.h.get k cs → ∃ v st', Ev Tryd.prog envD fo ([.agg cs]) st1 v st' ∧ v = .bool (p k) ∧ Qt st1 st') : ∃ v st', Ev Tryd.prog envD 43 [kk, (AV.fn fo [] [])] st v st' ∧ v = .bool (l.any p) ∧ Qt st st' := by
 have hln := hD.ln
 have hbn := hD.bnd
 refine ev_fn rfl Tryd.func43 rfl Tryd.ntmps43 rfl (by decide) (by simp) fun T hT => ?_
 have K : KnT [(0, _), (1, _)] T := (.cons (hT 0) (.cons (hT 1) .nil))
 have M := Mem.start hf
 refine w_seq ?_
 refine w_region ?_
 refine o1 K (os_assign rfl) rfl fun _ K => ?_
 refine wr_nil ?_
 show W _ _ _ _ _ _ _
 refine w_seq ?_
 refine w_region ?_
 refine o1 K (os_move rfl) rfl fun _ K => ?_
 refine o1 K (os_move rfl) rfl fun _ K => ?_
 obtain ⟨v7, st7, ev7, rfl, q7⟩ := indexPd_ev M.fresh (PsR.mono M.rows hD) (fun k hk st1 cs q hr => hC k hk st1 cs (M.qt.trans q) hr)
 refine o1 K (os_call rfl ev7) rfl fun _ K => ?_
 replace M := M.quiet q7
 refine o1 K (os_geq rfl rfl) rfl fun _ K => ?_
 refine o1 K (os_assign rfl) rfl fun _ K => ?_
 refine wr_nil ?_
 show W _ _ _ _ _ _ _
 refine w_ret ?_
 refine ⟨.inr rfl, _, (res_one (rs_tmp K rfl)), ?_⟩
 exact ⟨by rw [← idxA_any p l 0], M.qt⟩

theorem tIs_ev {ds : List Dc} {ps : List Pd} {o s : List Nat} {z a : Int} {l : List Nd} {st : St} {cs : List AV} (hf : Fresh st) (hr : PgR st.h.get ⟨ds, ps, .mk o s z a l⟩ cs) : ∃ v st', Ev Tryd.prog envD 20 [.agg cs] st v st' ∧ v = .bool (progB ⟨ds, ps, .mk o s z a l⟩) ∧ Qt st st' := by
 have hr0 := hr
 obtain ⟨kd, ld, kp, lp, o, s, z, a, kk, rfl, hD, hP, hn⟩ := hr0
 obtain ⟨kx, ls, ex, hK, hb⟩ := hn.open5
 injection ex with x1 x; injection x with x2 x; injection x with x3 x; injection x with x4 x; injection x with x5 x
 injection x1 with x1; injection x2 with x2; injection x3 with _ x3; injection x4 with _ x4
 subst x1 x2 x3 x4 x5
 replace hD : DsR st.h.get ds kd ld := hD
 replace hP : PsR st.h.get ps kp lp := hP
 replace hn : RdN st.h.get (.mk o s z a l) _ := hn
 have hbk := hK.bnd
 have hbd := hD.bnd
 have hbp := hP.bnd
 have hlp := hP.ln
 refine ev_fn rfl Tryd.func20 rfl Tryd.ntmps20 rfl (by decide) (by simp) fun T hT => ?_
 have K : KnT [(0, _)] T := (.cons (hT 0) .nil)
 have M := Mem.start hf
 refine w_seq ?_
 refine w_region ?_
 refine wr_box K M rfl (cl_cons hD.cell (cl_cons hP.cell (cl_cons rfl (cl_cons rfl (cl_cons rfl (cl_cons rfl (cl_cons hK.cell cl_nil))))))) (by decide) fun c1 _ _ K M => ?_
 refine o1 K (os_assign rfl) rfl fun _ K => ?_
 refine wr_nil ?_
 show W _ _ _ _ _ _ _
 refine w_seq ?_
 refine w_region ?_
 refine o1 K (os_fieldAddr fo_api_Prog_0 rfl) rfl fun _ K => ?_
 refine o1 K (os_load rfl (M.load (k := 0) rfl (part_one tk_S_api_Decl rfl))) rfl fun _ K => ?_
 obtain ⟨v5, st5, ev5, rfl, q5⟩ := areDecls_ev M.fresh (DsR.mono M.rows hD)
 refine o1 K (os_call rfl ev5) rfl fun _ K => ?_
 replace M := M.quiet q5
 refine oB K (os_move rfl) rfl fun b6 _ e6 K => ?_
 cases b6
 · refine gn K rfl rfl rfl rfl fun _ K => ?_
   refine gn K rfl rfl rfl rfl fun _ K => ?_
   refine gn K rfl rfl rfl rfl fun _ K => ?_
   refine gn K rfl rfl rfl rfl fun _ K => ?_
   refine o1 K (os_pick rfl rfl rfl) rfl fun _ K => ?_
   refine o1 K (os_move rfl) rfl fun _ K => ?_
   refine gn K rfl rfl rfl rfl fun _ K => ?_
   refine gn K rfl rfl rfl rfl fun _ K => ?_
   refine gn K rfl rfl rfl rfl fun _ K => ?_
   refine o1 K (os_pick rfl rfl rfl) rfl fun _ K => ?_
   refine o1 K (os_assign rfl) rfl fun _ K => ?_
   refine wr_nil ?_
   show W _ _ _ _ _ _ _
   refine w_ret ?_
   refine ⟨.inr rfl, _, (res_one (rs_tmp K rfl)), ?_⟩
   refine ⟨congrArg AV.bool ?_, M.qt⟩
   rw [progB_mk]
   try simp only [any_notA] at *
   try clear hr
   try clear hr0
   try clear hD
   try clear hP
   try clear hn
   try clear hK
   try clear hb
   try generalize ds.all declB = q1 at *
   try generalize ps.all predB = q4 at *
   try generalize smallB (.mk o s z a l) 2000 = q2 at *
   try generalize formN (.mk o s z a l) = q3 at *
   simp_all <;> first | done | rfl | omega | (intros; omega) | (intros; simp_all; done)
 refine og K rfl rfl (os_fieldAddr fo_api_Prog_1 rfl) rfl fun _ K => ?_
 refine og K rfl rfl (os_load rfl (M.load (k := 0) rfl (part_one tk_S_api_Pred rfl))) rfl fun _ K => ?_
 obtain ⟨v9, st9, ev9, rfl, q9⟩ := containsPd_ev (p := fun k => !predB k) M.fresh (PsR.mono M.rows hP) (fun k hk st1 cs q hr1 => by
   obtain ⟨pn, pp, ⟨o1, s1, z1, a1, l1⟩, pa⟩ := k
   exact is1_ev q.fresh hr1)
 refine og K rfl rfl (os_call rfl ev9) rfl fun _ K => ?_
 replace M := M.quiet q9
 refine og K rfl rfl (os_not rfl) rfl fun _ K => ?_
 refine o1 K (os_pick rfl rfl rfl) rfl fun _ K => ?_
 refine oB K (os_move rfl) rfl fun b12 _ e12 K => ?_
 cases b12
 · replace e12 : (ps.any fun k => !predB k) = true := by first | simpa using e12 | (revert e12; cases (ps.any fun k => !predB k) <;> simp)
   refine gn K rfl rfl rfl rfl fun _ K => ?_
   refine gn K rfl rfl rfl rfl fun _ K => ?_
   refine gn K rfl rfl rfl rfl fun _ K => ?_
   refine o1 K (os_pick rfl rfl rfl) rfl fun _ K => ?_
   refine o1 K (os_assign rfl) rfl fun _ K => ?_
   refine wr_nil ?_
   show W _ _ _ _ _ _ _
   refine w_ret ?_
   refine ⟨.inr rfl, _, (res_one (rs_tmp K rfl)), ?_⟩
   refine ⟨congrArg AV.bool ?_, M.qt⟩
   rw [progB_mk]
   try simp only [any_notA] at *
   try clear hr
   try clear hr0
   try clear hD
   try clear hP
   try clear hn
   try clear hK
   try clear hb
   try generalize ds.all declB = q1 at *
   try generalize ps.all predB = q4 at *
   try generalize smallB (.mk o s z a l) 2000 = q2 at *
   try generalize formN (.mk o s z a l) = q3 at *
   simp_all <;> first | done | rfl | omega | (intros; omega) | (intros; simp_all; done)
 replace e12 : (ps.any fun k => !predB k) = false := by first | simpa using e12 | (revert e12; cases (ps.any fun k => !predB k) <;> simp)
 refine og K rfl rfl (os_fieldAddr fo_api_Prog_2 rfl) rfl fun _ K => ?_
 refine og K rfl rfl (os_load rfl (M.load (k := 0) rfl (part_agg tk_api_Node rfl))) rfl fun _ K => ?_
 obtain ⟨v15, st15, ev15, rfl, q15⟩ := tIsFormula_ev M.fresh (hn.mono M.rows)
 refine og K rfl rfl (os_call rfl ev15) rfl fun _ K => ?_
 replace M := M.quiet q15
 refine o1 K (os_pick rfl rfl rfl) rfl fun _ K => ?_
 refine o1 K (os_assign rfl) rfl fun _ K => ?_
 refine wr_nil ?_
 show W _ _ _ _ _ _ _
 refine w_ret ?_
 refine ⟨.inr rfl, _, (res_one (rs_tmp K rfl)), ?_⟩
 refine ⟨congrArg AV.bool ?_, M.qt⟩
 rw [progB_mk]
 try simp only [any_notA] at *
 try clear hr
 try clear hr0
 try clear hD
 try clear hP
 try clear hn
 try clear hK
 try clear hb
 try generalize ds.all declB = q1 at *
 try generalize ps.all predB = q4 at *
 try generalize smallB (.mk o s z a l) 2000 = q2 at *
 try generalize formN (.mk o s z a l) = q3 at *
 simp_all <;> first | done | rfl | omega | (intros; omega) | (intros; simp_all; done)

theorem rDecls_ev {st : St} (hf : Fresh st) {l : List Dc} {kk : AV} {ls : List (List AV)} (hD : DsR st.h.get l kk ls) : ∃ v st', Ev Tryd.prog envD 47 [kk] st v st' ∧ v = .bool (l.all declB) ∧ Qt st st' := by
 have hln := hD.ln
 have hbn := hD.bnd
 refine ev_fn rfl Tryd.func47 rfl Tryd.ntmps47 rfl (by decide) (by simp) fun T hT => ?_
 have K : KnT [(0, _)] T := (.cons (hT 0) .nil)
 have M := Mem.start hf
 refine w_seq ?_
 refine w_region ?_
 refine o1 K (os_assign rfl) rfl fun _ K => ?_
 refine wr_nil ?_
 show W _ _ _ _ _ _ _
 refine w_seq ?_
 refine w_seq ?_
 refine w_region ?_
 refine o1 K (os_assign rfl) rfl fun _ K => ?_
 refine wr_nil ?_
 show W _ _ _ _ _ _ _
 refine w_block ?_
 refine w_loop (fun mm1 T st9 => ∃ (i : Nat), mm1 = l.length - i ∧ KnT [(0, kk), (3, .int .i64 (((i : Nat) : Int)))] T ∧ Mem st.h.get st.n [] st9 [] ∧ i ≤ l.length ∧ l.all declB = (l.drop i).all declB) (fun mm1 T st9 hI => ?_) _ _ _ ⟨0, rfl, (.cons (K _ _ rfl) (.cons (K _ _ rfl) .nil)), M.less (.refl _), (Nat.zero_le _), (by rw [List.drop_zero])⟩
 obtain ⟨i, rfl, K, M, hi, hx⟩ := hI
 refine w_seq ?_
 refine w_seq ?_
 refine w_region ?_
 refine o1 K (os_move rfl) rfl fun _ K => ?_
 refine o1 K (os_move rfl) rfl fun _ K => ?_
 refine o1 K (os_lenL un_S_api_Decl rfl rfl hD.len) rfl fun _ K => ?_
 refine o1 K (os_lss rfl rfl) rfl fun _ K => ?_
 refine wr_nil ?_
 show W _ _ _ _ _ _ _
 refine w_cond (K.opd rfl) (fun h7 => ?_) (fun h7 => ?_)
 · have hb7 := h7
   replace h7 := of_decide_eq_true h7
   refine w_skip ?_
   show W _ _ _ _ _ _ _
   refine w_seq ?_
   refine w_block ?_
   refine w_seq ?_
   refine w_region ?_
   refine o1 K (os_move rfl) rfl fun _ K => ?_
   refine o1 K (os_move rfl) rfl fun _ K => ?_
   obtain ⟨⟨dn12, do12, da12⟩, hi12⟩ : ∃ k, l[i]? = some k := ⟨_, List.getElem?_eq_getElem (by omega)⟩
   have hm12 := mem_get hi12
   obtain ⟨_, hc12, rfl, hy12⟩ := hD.at_ _ _ hi12
   obtain ⟨x12, m12, f12, q12, _, la12, lo12, lp12⟩ := (hD.r.mem M (by simp)).load (i := i) (cs := _) hc12
   refine o1 K (os_indexAddr (j := i) el_S_api_Decl (congrArg some q12) rfl (by rw [hD.ln]; omega)) rfl fun _ K => ?_
   refine o1 K (os_fieldAddr fo_api_Decl_0 rfl) rfl fun _ K => ?_
   refine o1 K (os_load rfl (lo12 _ 0 _ tk_string rfl)) rfl fun _ K => ?_
   obtain ⟨v15, st15, ev15, rfl, q15⟩ := risName_ev M.fresh dn12 hy12
   refine o1 K (os_call rfl ev15) rfl fun _ K => ?_
   replace M := M.quiet q15
   refine o1 K (os_not rfl) rfl fun _ K => ?_
   refine oB K (os_move rfl) rfl fun b17 _ e17 K => ?_
   cases b17
   · replace e17 : (nameB dn12) = true := by first | simpa using e17 | (revert e17; cases (nameB dn12) <;> simp)
     refine og K rfl rfl (os_move rfl) rfl fun _ K => ?_
     refine og K rfl rfl (os_move rfl) rfl fun _ K => ?_
     obtain ⟨⟨dn20, do20, da20⟩, hi20⟩ : ∃ k, l[i]? = some k := ⟨_, List.getElem?_eq_getElem (by omega)⟩
     have hm20 := mem_get hi20
     obtain ⟨_, hc20, rfl, hy20⟩ := hD.at_ _ _ hi20
     obtain ⟨x20, m20, f20, q20, _, la20, lo20, lp20⟩ := (hD.r.mem M (by simp)).load (i := i) (cs := _) hc20
     refine og K rfl rfl (os_indexAddr (j := i) el_S_api_Decl (congrArg some q20) rfl (by rw [hD.ln]; omega)) rfl fun _ K => ?_
     refine og K rfl rfl (os_fieldAddr fo_api_Decl_1 rfl) rfl fun _ K => ?_
     refine og K rfl rfl (os_load rfl (lo20 _ 1 _ tk_int rfl)) rfl fun _ K => ?_
     refine og K rfl rfl (os_lss rfl rfl) rfl fun _ K => ?_
     refine o1 K (os_pick rfl rfl rfl) rfl fun _ K => ?_
     refine oB K (os_move rfl) rfl fun b25 _ e25 K => ?_
     cases b25
     · replace e25 := of_decide_eq_false e25
       refine og K rfl rfl (os_move rfl) rfl fun _ K => ?_
       refine og K rfl rfl (os_move rfl) rfl fun _ K => ?_
       obtain ⟨⟨dn28, do28, da28⟩, hi28⟩ : ∃ k, l[i]? = some k := ⟨_, List.getElem?_eq_getElem (by omega)⟩
       have hm28 := mem_get hi28
       obtain ⟨_, hc28, rfl, hy28⟩ := hD.at_ _ _ hi28
       obtain ⟨x28, m28, f28, q28, _, la28, lo28, lp28⟩ := (hD.r.mem M (by simp)).load (i := i) (cs := _) hc28
       refine og K rfl rfl (os_indexAddr (j := i) el_S_api_Decl (congrArg some q28) rfl (by rw [hD.ln]; omega)) rfl fun _ K => ?_
       refine og K rfl rfl (os_fieldAddr fo_api_Decl_1 rfl) rfl fun _ K => ?_
       refine og K rfl rfl (os_load rfl (lo28 _ 1 _ tk_int rfl)) rfl fun _ K => ?_
       refine og K rfl rfl (os_gtr rfl rfl) rfl fun _ K => ?_
       refine o1 K (os_pick rfl rfl rfl) rfl fun _ K => ?_
       refine wr_nil ?_
       show W _ _ _ _ _ _ _
       refine w_cond (K.opd rfl) (fun h32 => ?_) (fun h32 => ?_)
       · have hb32 := h32
         replace h32 := of_decide_eq_true h32
         refine w_seq ?_
         refine w_region ?_
         refine o1 K (os_assign rfl) rfl fun _ K => ?_
         refine wr_nil ?_
         show W _ _ _ _ _ _ _
         refine w_ret ?_
         refine ⟨.inr rfl, _, (res_one (rs_tmp K rfl)), ?_⟩
         refine ⟨congrArg AV.bool ?_, M.qt⟩
         rw [hx, allA_step hi12, declB]
         try clear hx
         try clear hD
         simp_all [lt3'] <;> first | done | rfl | omega | (intros; omega) | (intros; simp_all; done)
       have hb32 := h32
       replace h32 := of_decide_eq_false h32
       refine w_skip ?_
       show W _ _ _ _ _ _ _
       refine w_region ?_
       refine o1 K (os_move rfl) rfl fun _ K => ?_
       refine o1 K (os_add rfl rfl (by omega) (by omega)) rfl fun _ K => ?_
       refine o1 K (os_assign rfl) rfl fun _ K => ?_
       refine wr_nil ?_
       exact ⟨_, (by omega), i + 1, rfl, (.cons (K _ _ rfl) (.cons (K _ _ rfl) .nil)), M.less (.refl _), (by omega), (by rw [hx, allA_step hi12, declB]; simp_all [lt3'])⟩
     replace e25 := of_decide_eq_true e25
     refine gn K rfl rfl rfl rfl fun _ K => ?_
     refine gn K rfl rfl rfl rfl fun _ K => ?_
     refine gn K rfl rfl rfl rfl fun _ K => ?_
     refine gn K rfl rfl rfl rfl fun _ K => ?_
     refine gn K rfl rfl rfl rfl fun _ K => ?_
     refine gn K rfl rfl rfl rfl fun _ K => ?_
     refine o1 K (os_pick rfl rfl rfl) rfl fun _ K => ?_
     refine wr_nil ?_
     show W _ _ _ _ _ _ _
     refine w_cond (t := true) (K.opd rfl) (fun _ => ?_) (fun h => by cases h)
     refine w_seq ?_
     refine w_region ?_
     refine o1 K (os_assign rfl) rfl fun _ K => ?_
     refine wr_nil ?_
     show W _ _ _ _ _ _ _
     refine w_ret ?_
     refine ⟨.inr rfl, _, (res_one (rs_tmp K rfl)), ?_⟩
     refine ⟨congrArg AV.bool ?_, M.qt⟩
     rw [hx, allA_step hi12, declB]
     try clear hx
     try clear hD
     simp_all [lt3'] <;> first | done | rfl | omega | (intros; omega) | (intros; simp_all; done)
   replace e17 : (nameB dn12) = false := by first | simpa using e17 | (revert e17; cases (nameB dn12) <;> simp)
   refine gn K rfl rfl rfl rfl fun _ K => ?_
   refine gn K rfl rfl rfl rfl fun _ K => ?_
   refine gn K rfl rfl rfl rfl fun _ K => ?_
   refine gn K rfl rfl rfl rfl fun _ K => ?_
   refine gn K rfl rfl rfl rfl fun _ K => ?_
   refine gn K rfl rfl rfl rfl fun _ K => ?_
   refine o1 K (os_pick rfl rfl rfl) rfl fun _ K => ?_
   refine o1 K (os_move rfl) rfl fun _ K => ?_
   refine gn K rfl rfl rfl rfl fun _ K => ?_
   refine gn K rfl rfl rfl rfl fun _ K => ?_
   refine gn K rfl rfl rfl rfl fun _ K => ?_
   refine gn K rfl rfl rfl rfl fun _ K => ?_
   refine gn K rfl rfl rfl rfl fun _ K => ?_
   refine gn K rfl rfl rfl rfl fun _ K => ?_
   refine o1 K (os_pick rfl rfl rfl) rfl fun _ K => ?_
   refine wr_nil ?_
   show W _ _ _ _ _ _ _
   refine w_cond (t := true) (K.opd rfl) (fun _ => ?_) (fun h => by cases h)
   refine w_seq ?_
   refine w_region ?_
   refine o1 K (os_assign rfl) rfl fun _ K => ?_
   refine wr_nil ?_
   show W _ _ _ _ _ _ _
   refine w_ret ?_
   refine ⟨.inr rfl, _, (res_one (rs_tmp K rfl)), ?_⟩
   refine ⟨congrArg AV.bool ?_, M.qt⟩
   rw [hx, allA_step hi12, declB]
   try clear hx
   try clear hD
   simp_all [lt3'] <;> first | done | rfl | omega | (intros; omega) | (intros; simp_all; done)
 have hb7 := h7
 replace h7 := of_decide_eq_false h7
 refine w_exit ?_
 show W _ _ _ _ _ _ _
 refine w_seq ?_
 refine w_region ?_
 refine o1 K (os_assign rfl) rfl fun _ K => ?_
 refine wr_nil ?_
 show W _ _ _ _ _ _ _
 refine w_ret ?_
 refine ⟨.inr rfl, _, (res_one (rs_tmp K rfl)), ?_⟩
 exact ⟨by rw [hx, drop_end (by omega)]; rfl, M.qt⟩

theorem rIs_ev {ds : List Dc} {ps : List Pd} {o s : List Nat} {z a : Int} {l : List Nd} {st : St} {cs : List AV} (hf : Fresh st) (hr : PgR st.h.get ⟨ds, ps, .mk o s z a l⟩ cs) : ∃ v st', Ev Tryd.prog envD 21 [.agg cs] st v st' ∧ v = .bool (progB ⟨ds, ps, .mk o s z a l⟩) ∧ Qt st st' := by
 have hr0 := hr
 obtain ⟨kd, ld, kp, lp, o, s, z, a, kk, rfl, hD, hP, hn⟩ := hr0
 obtain ⟨kx, ls, ex, hK, hb⟩ := hn.open5
 injection ex with x1 x; injection x with x2 x; injection x with x3 x; injection x with x4 x; injection x with x5 x
 injection x1 with x1; injection x2 with x2; injection x3 with _ x3; injection x4 with _ x4
 subst x1 x2 x3 x4 x5
 replace hD : DsR st.h.get ds kd ld := hD
 replace hP : PsR st.h.get ps kp lp := hP
 replace hn : RdN st.h.get (.mk o s z a l) _ := hn
 have hbk := hK.bnd
 have hbd := hD.bnd
 have hbp := hP.bnd
 have hlp := hP.ln
 refine ev_fn rfl Tryd.func21 rfl Tryd.ntmps21 rfl (by decide) (by simp) fun T hT => ?_
 have K : KnT [(0, _)] T := (.cons (hT 0) .nil)
 have M := Mem.start hf
 refine w_seq ?_
 refine w_region ?_
 refine wr_box K M rfl (cl_cons hD.cell (cl_cons hP.cell (cl_cons rfl (cl_cons rfl (cl_cons rfl (cl_cons rfl (cl_cons hK.cell cl_nil))))))) (by decide) fun c1 _ _ K M => ?_
 refine o1 K (os_assign rfl) rfl fun _ K => ?_
 refine wr_nil ?_
 show W _ _ _ _ _ _ _
 refine w_seq ?_
 refine w_seq ?_
 refine w_region ?_
 refine o1 K (os_assign rfl) rfl fun _ K => ?_
 refine wr_nil ?_
 show W _ _ _ _ _ _ _
 refine w_block ?_
 refine w_loop (fun mm1 T st9 => ∃ (i : Nat), mm1 = ps.length - i ∧ KnT [(1, .ptr c1 0 0), (3, .int .i64 (((i : Nat) : Int)))] T ∧ Mem st.h.get st.n [] st9 [(c1, 0, [kd, kp, .str o, .str s, .int .i64 z, .int .i64 a, kk])] ∧ i ≤ ps.length ∧ ps.all predB = (ps.drop i).all predB) (fun mm1 T st9 hI => ?_) _ _ _ ⟨0, rfl, (.cons (K _ _ rfl) (.cons (K _ _ rfl) .nil)), M.less (.refl _), (Nat.zero_le _), (by rw [List.drop_zero])⟩
 obtain ⟨i, rfl, K, M, hi, hx⟩ := hI
 refine w_seq ?_
 refine w_seq ?_
 refine w_region ?_
 refine o1 K (os_move rfl) rfl fun _ K => ?_
 refine o1 K (os_fieldAddr fo_api_Prog_1 rfl) rfl fun _ K => ?_
 refine o1 K (os_load rfl (M.load (k := 0) rfl (part_one tk_S_api_Pred rfl))) rfl fun _ K => ?_
 refine o1 K (os_lenL un_S_api_Pred rfl rfl hP.len) rfl fun _ K => ?_
 refine o1 K (os_lss rfl rfl) rfl fun _ K => ?_
 refine wr_nil ?_
 show W _ _ _ _ _ _ _
 refine w_cond (K.opd rfl) (fun h9 => ?_) (fun h9 => ?_)
 · have hb9 := h9
   replace h9 := of_decide_eq_true h9
   refine w_skip ?_
   show W _ _ _ _ _ _ _
   refine w_seq ?_
   refine w_block ?_
   refine w_seq ?_
   refine w_region ?_
   refine o1 K (os_fieldAddr fo_api_Prog_1 rfl) rfl fun _ K => ?_
   refine o1 K (os_load rfl (M.load (k := 0) rfl (part_one tk_S_api_Pred rfl))) rfl fun _ K => ?_
   refine o1 K (os_move rfl) rfl fun _ K => ?_
   obtain ⟨⟨pn15, pp15, ⟨_, _, _, _, l15⟩, pa15⟩, hi15⟩ : ∃ k, ps[i]? = some k := ⟨_, List.getElem?_eq_getElem (by omega)⟩
   have hm15 := mem_get hi15
   obtain ⟨_, hc15, hP15⟩ := hP.at_ _ _ hi15
   have hP150 := hP15
   obtain ⟨kd15, ld15, o15, s15, z15, a15, kk15, rfl, hD15, hn15, hy15⟩ := hP150
   obtain ⟨kx15, ls15, ex15, hK15, hb15⟩ := hn15.open5
   injection ex15 with x1 x; injection x with x2 x; injection x with x3 x; injection x with x4 x; injection x with x5 x
   injection x1 with x1; injection x2 with x2; injection x3 with _ x3; injection x4 with _ x4
   subst x1 x2 x3 x4 x5
   replace hD15 : DsR st.h.get pp15 kd15 ld15 := hD15
   replace hn15 : RdN st.h.get (.mk o15 s15 z15 a15 l15) _ := hn15
   replace hy15 : Bytes pn15 := hy15
   have hl15 := hK15.bnd
   have hd15 := hD15.bnd
   obtain ⟨x15, m15, f15, q15, _, la15, lo15, lp15⟩ := (hP.r.mem M (by simp)).load (i := i) (cs := _) hc15
   refine o1 K (os_indexAddr (j := i) el_S_api_Pred (congrArg some q15) rfl (by rw [hP.ln]; omega)) rfl fun _ K => ?_
   refine o1 K (os_load rfl (la15 _ tk_api_Pred)) rfl fun _ K => ?_
   refine wr_alloc K M ze_api_Pred (by decide) fun c4 _ _ K M => ?_
   refine wr_store (k := 0) K M rfl rfl rfl sz_api_Pred rfl (cl_cons rfl (cl_cons hD15.cell (cl_cons rfl (cl_cons rfl (cl_cons rfl (cl_cons rfl (cl_cons hK15.cell (cl_cons rfl cl_nil)))))))) rfl fun _ M => ?_
   refine wr_nil ?_
   show W _ _ _ _ _ _ _
   refine w_seq ?_
   refine w_region ?_
   refine o1 K (os_fieldAddr fo_api_Pred_0 rfl) rfl fun _ K => ?_
   refine o1 K (os_load rfl (M.load (k := 0) rfl (part_one tk_string rfl))) rfl fun _ K => ?_
   obtain ⟨v19, st19, ev19, rfl, q19⟩ := risName_ev M.fresh pn15 hy15
   refine o1 K (os_call rfl ev19) rfl fun _ K => ?_
   replace M := M.quiet q19
   refine o1 K (os_not rfl) rfl fun _ K => ?_
   refine oB K (os_move rfl) rfl fun b21 _ e21 K => ?_
   cases b21
   · replace e21 : (nameB pn15) = true := by first | simpa using e21 | (revert e21; cases (nameB pn15) <;> simp)
     refine og K rfl rfl (os_fieldAddr fo_api_Pred_1 rfl) rfl fun _ K => ?_
     refine og K rfl rfl (os_load rfl (M.load (k := 0) rfl (part_one tk_S_api_Decl rfl))) rfl fun _ K => ?_
     refine og K rfl rfl (os_lenL un_S_api_Decl rfl rfl hD15.len) rfl fun _ K => ?_
     refine og K rfl rfl (os_gtr rfl rfl) rfl fun _ K => ?_
     refine o1 K (os_pick rfl rfl rfl) rfl fun _ K => ?_
     refine oB K (os_move rfl) rfl fun b27 _ e27 K => ?_
     cases b27
     · replace e27 := of_decide_eq_false e27
       refine og K rfl rfl (os_fieldAddr fo_api_Pred_1 rfl) rfl fun _ K => ?_
       refine og K rfl rfl (os_load rfl (M.load (k := 0) rfl (part_one tk_S_api_Decl rfl))) rfl fun _ K => ?_
       obtain ⟨v30, st30, ev30, rfl, q30⟩ := rDecls_ev M.fresh (DsR.mono M.rows hD15)
       refine og K rfl rfl (os_call rfl ev30) rfl fun _ K => ?_
       replace M := M.quiet q30
       refine og K rfl rfl (os_not rfl) rfl fun _ K => ?_
       refine o1 K (os_pick rfl rfl rfl) rfl fun _ K => ?_
       refine oB K (os_move rfl) rfl fun b33 _ e33 K => ?_
       cases b33
       · replace e33 : (pp15.all declB) = true := by first | simpa using e33 | (revert e33; cases (pp15.all declB) <;> simp)
         refine og K rfl rfl (os_fieldAddr fo_api_Pred_2 rfl) rfl fun _ K => ?_
         refine og K rfl rfl (os_load rfl (M.load (k := 0) rfl (part_agg tk_api_Node rfl))) rfl fun _ K => ?_
         obtain ⟨v36, st36, ev36, rfl, q36⟩ := rIsFormula_ev M.fresh (hn15.mono M.rows)
         refine og K rfl rfl (os_call rfl ev36) rfl fun _ K => ?_
         replace M := M.quiet q36
         refine og K rfl rfl (os_not rfl) rfl fun _ K => ?_
         refine o1 K (os_pick rfl rfl rfl) rfl fun _ K => ?_
         refine wr_nil ?_
         show W _ _ _ _ _ _ _
         refine w_cond (K.opd rfl) (fun h38 => ?_) (fun h38 => ?_)
         · have hb38 := h38
           replace h38 : (smallB (.mk o15 s15 z15 a15 l15) 2000 && formN (.mk o15 s15 z15 a15 l15)) = false := by first | simpa using h38 | (revert h38; cases (smallB (.mk o15 s15 z15 a15 l15) 2000 && formN (.mk o15 s15 z15 a15 l15)) <;> simp)
           refine w_seq ?_
           refine w_region ?_
           refine o1 K (os_assign rfl) rfl fun _ K => ?_
           refine wr_nil ?_
           show W _ _ _ _ _ _ _
           refine w_ret ?_
           refine ⟨.inr rfl, _, (res_one (rs_tmp K rfl)), ?_⟩
           refine ⟨congrArg AV.bool ?_, M.qt⟩
           rw [progB_mk, hx, allA_step hi15, predB_mk]
           try generalize pp15.all declB = q6 at *
           try clear hx
           try clear hr
           try clear hr0
           try clear hD
           try clear hP
           try clear hn
           try clear hK
           try clear hb
           try clear hP15
           try clear hD15
           try clear hn15
           try clear hK15
           simp_all <;> first | done | rfl | omega | (intros; omega) | (intros; simp_all; done)
         have hb38 := h38
         replace h38 : (smallB (.mk o15 s15 z15 a15 l15) 2000 && formN (.mk o15 s15 z15 a15 l15)) = true := by first | simpa using h38 | (revert h38; cases (smallB (.mk o15 s15 z15 a15 l15) 2000 && formN (.mk o15 s15 z15 a15 l15)) <;> simp)
         refine w_skip ?_
         show W _ _ _ _ _ _ _
         refine w_region ?_
         refine o1 K (os_move rfl) rfl fun _ K => ?_
         refine o1 K (os_add rfl rfl (by omega) (by omega)) rfl fun _ K => ?_
         refine o1 K (os_assign rfl) rfl fun _ K => ?_
         refine wr_nil ?_
         exact ⟨_, (by omega), i + 1, rfl, (.cons (K _ _ rfl) (.cons (K _ _ rfl) .nil)), M.less (.cons _ (.refl _)), (by omega), (by rw [hx, allA_step hi15, predB_mk]; simp_all <;> omega)⟩
       replace e33 : (pp15.all declB) = false := by first | simpa using e33 | (revert e33; cases (pp15.all declB) <;> simp)
       refine gn K rfl rfl rfl rfl fun _ K => ?_
       refine gn K rfl rfl rfl rfl fun _ K => ?_
       refine gn K rfl rfl rfl rfl fun _ K => ?_
       refine gn K rfl rfl rfl rfl fun _ K => ?_
       refine o1 K (os_pick rfl rfl rfl) rfl fun _ K => ?_
       refine wr_nil ?_
       show W _ _ _ _ _ _ _
       refine w_cond (t := true) (K.opd rfl) (fun _ => ?_) (fun h => by cases h)
       refine w_seq ?_
       refine w_region ?_
       refine o1 K (os_assign rfl) rfl fun _ K => ?_
       refine wr_nil ?_
       show W _ _ _ _ _ _ _
       refine w_ret ?_
       refine ⟨.inr rfl, _, (res_one (rs_tmp K rfl)), ?_⟩
       refine ⟨congrArg AV.bool ?_, M.qt⟩
       rw [progB_mk, hx, allA_step hi15, predB_mk]
       try generalize pp15.all declB = q6 at *
       try clear hx
       try clear hr
       try clear hr0
       try clear hD
       try clear hP
       try clear hn
       try clear hK
       try clear hb
       try clear hP15
       try clear hD15
       try clear hn15
       try clear hK15
       simp_all <;> first | done | rfl | omega | (intros; omega) | (intros; simp_all; done)
     replace e27 := of_decide_eq_true e27
     refine gn K rfl rfl rfl rfl fun _ K => ?_
     refine gn K rfl rfl rfl rfl fun _ K => ?_
     refine gn K rfl rfl rfl rfl fun _ K => ?_
     refine gn K rfl rfl rfl rfl fun _ K => ?_
     refine o1 K (os_pick rfl rfl rfl) rfl fun _ K => ?_
     refine o1 K (os_move rfl) rfl fun _ K => ?_
     refine gn K rfl rfl rfl rfl fun _ K => ?_
     refine gn K rfl rfl rfl rfl fun _ K => ?_
     refine gn K rfl rfl rfl rfl fun _ K => ?_
     refine gn K rfl rfl rfl rfl fun _ K => ?_
     refine o1 K (os_pick rfl rfl rfl) rfl fun _ K => ?_
     refine wr_nil ?_
     show W _ _ _ _ _ _ _
     refine w_cond (t := true) (K.opd rfl) (fun _ => ?_) (fun h => by cases h)
     refine w_seq ?_
     refine w_region ?_
     refine o1 K (os_assign rfl) rfl fun _ K => ?_
     refine wr_nil ?_
     show W _ _ _ _ _ _ _
     refine w_ret ?_
     refine ⟨.inr rfl, _, (res_one (rs_tmp K rfl)), ?_⟩
     refine ⟨congrArg AV.bool ?_, M.qt⟩
     rw [progB_mk, hx, allA_step hi15, predB_mk]
     try generalize pp15.all declB = q6 at *
     try clear hx
     try clear hr
     try clear hr0
     try clear hD
     try clear hP
     try clear hn
     try clear hK
     try clear hb
     try clear hP15
     try clear hD15
     try clear hn15
     try clear hK15
     simp_all <;> first | done | rfl | omega | (intros; omega) | (intros; simp_all; done)
   replace e21 : (nameB pn15) = false := by first | simpa using e21 | (revert e21; cases (nameB pn15) <;> simp)
   refine gn K rfl rfl rfl rfl fun _ K => ?_
   refine gn K rfl rfl rfl rfl fun _ K => ?_
   refine gn K rfl rfl rfl rfl fun _ K => ?_
   refine gn K rfl rfl rfl rfl fun _ K => ?_
   refine o1 K (os_pick rfl rfl rfl) rfl fun _ K => ?_
   refine o1 K (os_move rfl) rfl fun _ K => ?_
   refine gn K rfl rfl rfl rfl fun _ K => ?_
   refine gn K rfl rfl rfl rfl fun _ K => ?_
   refine gn K rfl rfl rfl rfl fun _ K => ?_
   refine gn K rfl rfl rfl rfl fun _ K => ?_
   refine o1 K (os_pick rfl rfl rfl) rfl fun _ K => ?_
   refine o1 K (os_move rfl) rfl fun _ K => ?_
   refine gn K rfl rfl rfl rfl fun _ K => ?_
   refine gn K rfl rfl rfl rfl fun _ K => ?_
   refine gn K rfl rfl rfl rfl fun _ K => ?_
   refine gn K rfl rfl rfl rfl fun _ K => ?_
   refine o1 K (os_pick rfl rfl rfl) rfl fun _ K => ?_
   refine wr_nil ?_
   show W _ _ _ _ _ _ _
   refine w_cond (t := true) (K.opd rfl) (fun _ => ?_) (fun h => by cases h)
   refine w_seq ?_
   refine w_region ?_
   refine o1 K (os_assign rfl) rfl fun _ K => ?_
   refine wr_nil ?_
   show W _ _ _ _ _ _ _
   refine w_ret ?_
   refine ⟨.inr rfl, _, (res_one (rs_tmp K rfl)), ?_⟩
   refine ⟨congrArg AV.bool ?_, M.qt⟩
   rw [progB_mk, hx, allA_step hi15, predB_mk]
   try generalize pp15.all declB = q6 at *
   try clear hx
   try clear hr
   try clear hr0
   try clear hD
   try clear hP
   try clear hn
   try clear hK
   try clear hb
   try clear hP15
   try clear hD15
   try clear hn15
   try clear hK15
   simp_all <;> first | done | rfl | omega | (intros; omega) | (intros; simp_all; done)
 have hb9 := h9
 replace h9 := of_decide_eq_false h9
 refine w_exit ?_
 show W _ _ _ _ _ _ _
 refine w_seq ?_
 refine w_region ?_
 refine o1 K (os_fieldAddr fo_api_Prog_0 rfl) rfl fun _ K => ?_
 refine o1 K (os_load rfl (M.load (k := 0) rfl (part_one tk_S_api_Decl rfl))) rfl fun _ K => ?_
 obtain ⟨v41, st41, ev41, rfl, q41⟩ := rDecls_ev M.fresh (DsR.mono M.rows hD)
 refine o1 K (os_call rfl ev41) rfl fun _ K => ?_
 replace M := M.quiet q41
 refine oB K (os_move rfl) rfl fun b42 _ e42 K => ?_
 cases b42
 · refine gn K rfl rfl rfl rfl fun _ K => ?_
   refine gn K rfl rfl rfl rfl fun _ K => ?_
   refine gn K rfl rfl rfl rfl fun _ K => ?_
   refine o1 K (os_pick rfl rfl rfl) rfl fun _ K => ?_
   refine o1 K (os_assign rfl) rfl fun _ K => ?_
   refine wr_nil ?_
   show W _ _ _ _ _ _ _
   refine w_ret ?_
   refine ⟨.inr rfl, _, (res_one (rs_tmp K rfl)), ?_⟩
   refine ⟨congrArg AV.bool ?_, M.qt⟩
   have hx2 : ps.all predB = true := by rw [hx, drop_end (by omega)]; rfl
   try clear hx
   rw [progB_mk]
   try clear hr
   try clear hr0
   try clear hD
   try clear hP
   try clear hn
   try clear hK
   try clear hb
   try generalize ds.all declB = q1 at *
   try generalize ps.all predB = q4 at *
   try generalize smallB (.mk o s z a l) 2000 = q2 at *
   try generalize formN (.mk o s z a l) = q3 at *
   simp_all <;> first | done | rfl | omega | (intros; omega) | (intros; simp_all; done)
 refine og K rfl rfl (os_fieldAddr fo_api_Prog_2 rfl) rfl fun _ K => ?_
 refine og K rfl rfl (os_load rfl (M.load (k := 0) rfl (part_agg tk_api_Node rfl))) rfl fun _ K => ?_
 obtain ⟨v45, st45, ev45, rfl, q45⟩ := rIsFormula_ev M.fresh (hn.mono M.rows)
 refine og K rfl rfl (os_call rfl ev45) rfl fun _ K => ?_
 replace M := M.quiet q45
 refine o1 K (os_pick rfl rfl rfl) rfl fun _ K => ?_
 refine o1 K (os_assign rfl) rfl fun _ K => ?_
 refine wr_nil ?_
 show W _ _ _ _ _ _ _
 refine w_ret ?_
 refine ⟨.inr rfl, _, (res_one (rs_tmp K rfl)), ?_⟩
 refine ⟨congrArg AV.bool ?_, M.qt⟩
 have hx2 : ps.all predB = true := by rw [hx, drop_end (by omega)]; rfl
 try clear hx
 rw [progB_mk]
 try clear hr
 try clear hr0
 try clear hD
 try clear hP
 try clear hn
 try clear hK
 try clear hb
 try generalize ds.all declB = q1 at *
 try generalize ps.all predB = q4 at *
 try generalize smallB (.mk o s z a l) 2000 = q2 at *
 try generalize formN (.mk o s z a l) = q3 at *
 simp_all <;> first | done | rfl | omega | (intros; omega) | (intros; simp_all; done)

theorem treeProgs_ev {ds : List Dc} {ps : List Pd} {o s : List Nat} {z a : Int} {l : List Nd} {st : St} {cs : List AV} (hf : Fresh st) (hr : PgR st.h.get ⟨ds, ps, .mk o s z a l⟩ cs) : ∃ v st', Ev Tryd.prog envD 4 [.agg cs] st v st' ∧ v = .bool true := by
 have hr0 := hr
 obtain ⟨kd, ld, kp, lp, o, s, z, a, kk, rfl, hD, hP, hn⟩ := hr0
 obtain ⟨kx, ls, ex, hK, hb⟩ := hn.open5
 injection ex with x1 x; injection x with x2 x; injection x with x3 x; injection x with x4 x; injection x with x5 x
 injection x1 with x1; injection x2 with x2; injection x3 with _ x3; injection x4 with _ x4
 subst x1 x2 x3 x4 x5
 replace hD : DsR st.h.get ds kd ld := hD
 replace hP : PsR st.h.get ps kp lp := hP
 replace hn : RdN st.h.get (.mk o s z a l) _ := hn
 have hbk := hK.bnd
 have hbd := hD.bnd
 have hbp := hP.bnd
 have hlp := hP.ln
 refine ev_fn rfl Tryd.func4 rfl Tryd.ntmps4 rfl (by decide) (by simp) fun T hT => ?_
 have K : KnT [(0, _)] T := (.cons (hT 0) .nil)
 have M := Mem.start hf
 refine w_seq ?_
 refine w_region ?_
 refine wr_box K M rfl (cl_cons hD.cell (cl_cons hP.cell (cl_cons rfl (cl_cons rfl (cl_cons rfl (cl_cons rfl (cl_cons hK.cell cl_nil))))))) (by decide) fun c1 _ _ K M => ?_
 refine o1 K (os_assign rfl) rfl fun _ K => ?_
 refine wr_nil ?_
 show W _ _ _ _ _ _ _
 refine w_seq ?_
 refine w_seq ?_
 refine w_region ?_
 refine o1 K (os_fieldAddr fo_api_Prog_0 rfl) rfl fun _ K => ?_
 refine o1 K (os_load rfl (M.load (k := 0) rfl (part_one tk_S_api_Decl rfl))) rfl fun _ K => ?_
 refine o1 K (os_lenL un_S_api_Decl rfl rfl hD.len) rfl fun _ K => ?_
 refine o1 K (os_gtr rfl rfl) rfl fun _ K => ?_
 refine oB K (os_move rfl) rfl fun b8 _ e8 K => ?_
 cases b8
 · replace e8 := of_decide_eq_false e8
   refine og K rfl rfl (os_fieldAddr fo_api_Prog_1 rfl) rfl fun _ K => ?_
   refine og K rfl rfl (os_load rfl (M.load (k := 0) rfl (part_one tk_S_api_Pred rfl))) rfl fun _ K => ?_
   refine og K rfl rfl (os_lenL un_S_api_Pred rfl rfl hP.len) rfl fun _ K => ?_
   refine og K rfl rfl (os_gtr rfl rfl) rfl fun _ K => ?_
   refine o1 K (os_pick rfl rfl rfl) rfl fun _ K => ?_
   refine oB K (os_move rfl) rfl fun b14 _ e14 K => ?_
   cases b14
   · replace e14 := of_decide_eq_false e14
     refine og K rfl rfl (os_fieldAddr fo_api_Prog_2 rfl) rfl fun _ K => ?_
     refine og K rfl rfl (os_load rfl (M.load (k := 0) rfl (part_agg tk_api_Node rfl))) rfl fun _ K => ?_
     obtain ⟨v17, st17, ev17, rfl, q17⟩ := fine2_ev M.fresh (hn.mono M.rows)
     refine og K rfl rfl (os_call rfl ev17) rfl fun _ K => ?_
     replace M := M.quiet q17
     refine og K rfl rfl (os_not rfl) rfl fun _ K => ?_
     refine o1 K (os_pick rfl rfl rfl) rfl fun _ K => ?_
     refine wr_nil ?_
     show W _ _ _ _ _ _ _
     refine w_cond (K.opd rfl) (fun h19 => ?_) (fun h19 => ?_)
     · have hb19 := h19
       replace h19 : (smallB (.mk o s z a l) 300) = false := by first | simpa using h19 | (revert h19; cases (smallB (.mk o s z a l) 300) <;> simp)
       refine w_seq ?_
       refine w_region ?_
       refine o1 K (os_assign rfl) rfl fun _ K => ?_
       refine wr_nil ?_
       show W _ _ _ _ _ _ _
       refine w_ret ?_
       refine ⟨.inr rfl, _, (res_one (rs_tmp K rfl)), ?_⟩
       first
        | rfl
        | (simp_all; done)
        | (exfalso; simp_all; done)
     have hb19 := h19
     replace h19 : (smallB (.mk o s z a l) 300) = true := by first | simpa using h19 | (revert h19; cases (smallB (.mk o s z a l) 300) <;> simp)
     refine w_skip ?_
     show W _ _ _ _ _ _ _
     refine w_seq ?_
     refine w_seq ?_
     refine w_region ?_
     refine o1 K (os_assign rfl) rfl fun _ K => ?_
     refine wr_nil ?_
     show W _ _ _ _ _ _ _
     refine w_block ?_
     refine w_loop (fun mm1 T st9 => ∃ (i : Nat), mm1 = ps.length - i ∧ KnT [(1, .ptr c1 0 0), (3, .int .i64 (((i : Nat) : Int)))] T ∧ Mem st.h.get st.n [] st9 [(c1, 0, [kd, kp, .str o, .str s, .int .i64 z, .int .i64 a, kk])] ∧ i ≤ ps.length) (fun mm1 T st9 hI => ?_) _ _ _ ⟨0, rfl, (.cons (K _ _ rfl) (.cons (K _ _ rfl) .nil)), M.less (.refl _), (Nat.zero_le _)⟩
     obtain ⟨i, rfl, K, M, hi⟩ := hI
     refine w_seq ?_
     refine w_seq ?_
     refine w_region ?_
     refine o1 K (os_move rfl) rfl fun _ K => ?_
     refine o1 K (os_fieldAddr fo_api_Prog_1 rfl) rfl fun _ K => ?_
     refine o1 K (os_load rfl (M.load (k := 0) rfl (part_one tk_S_api_Pred rfl))) rfl fun _ K => ?_
     refine o1 K (os_lenL un_S_api_Pred rfl rfl hP.len) rfl fun _ K => ?_
     refine o1 K (os_lss rfl rfl) rfl fun _ K => ?_
     refine wr_nil ?_
     show W _ _ _ _ _ _ _
     refine w_cond (K.opd rfl) (fun h24 => ?_) (fun h24 => ?_)
     · have hb24 := h24
       replace h24 := of_decide_eq_true h24
       refine w_skip ?_
       show W _ _ _ _ _ _ _
       refine w_seq ?_
       refine w_block ?_
       refine w_seq ?_
       refine w_region ?_
       refine o1 K (os_fieldAddr fo_api_Prog_1 rfl) rfl fun _ K => ?_
       refine o1 K (os_load rfl (M.load (k := 0) rfl (part_one tk_S_api_Pred rfl))) rfl fun _ K => ?_
       refine o1 K (os_move rfl) rfl fun _ K => ?_
       obtain ⟨⟨pn30, pp30, ⟨_, _, _, _, l30⟩, pa30⟩, hi30⟩ : ∃ k, ps[i]? = some k := ⟨_, List.getElem?_eq_getElem (by omega)⟩
       have hm30 := mem_get hi30
       obtain ⟨_, hc30, hP30⟩ := hP.at_ _ _ hi30
       have hP300 := hP30
       obtain ⟨kd30, ld30, o30, s30, z30, a30, kk30, rfl, hD30, hn30, hy30⟩ := hP300
       obtain ⟨kx30, ls30, ex30, hK30, hb30⟩ := hn30.open5
       injection ex30 with x1 x; injection x with x2 x; injection x with x3 x; injection x with x4 x; injection x with x5 x
       injection x1 with x1; injection x2 with x2; injection x3 with _ x3; injection x4 with _ x4
       subst x1 x2 x3 x4 x5
       replace hD30 : DsR st.h.get pp30 kd30 ld30 := hD30
       replace hn30 : RdN st.h.get (.mk o30 s30 z30 a30 l30) _ := hn30
       replace hy30 : Bytes pn30 := hy30
       have hl30 := hK30.bnd
       have hd30 := hD30.bnd
       obtain ⟨x30, m30, f30, q30, _, la30, lo30, lp30⟩ := (hP.r.mem M (by simp)).load (i := i) (cs := _) hc30
       refine o1 K (os_indexAddr (j := i) el_S_api_Pred (congrArg some q30) rfl (by rw [hP.ln]; omega)) rfl fun _ K => ?_
       refine o1 K (os_fieldAddr fo_api_Pred_1 rfl) rfl fun _ K => ?_
       refine o1 K (os_load rfl (lo30 _ 1 _ tk_S_api_Decl rfl)) rfl fun _ K => ?_
       refine o1 K (os_lenL un_S_api_Decl rfl rfl hD30.len) rfl fun _ K => ?_
       refine o1 K (os_gtr rfl rfl) rfl fun _ K => ?_
       refine oB K (os_move rfl) rfl fun b35 _ e35 K => ?_
       cases b35
       · replace e35 := of_decide_eq_false e35
         refine og K rfl rfl (os_fieldAddr fo_api_Prog_1 rfl) rfl fun _ K => ?_
         refine og K rfl rfl (os_load rfl (M.load (k := 0) rfl (part_one tk_S_api_Pred rfl))) rfl fun _ K => ?_
         refine og K rfl rfl (os_move rfl) rfl fun _ K => ?_
         obtain ⟨⟨pn39, pp39, ⟨_, _, _, _, l39⟩, pa39⟩, hi39⟩ : ∃ k, ps[i]? = some k := ⟨_, List.getElem?_eq_getElem (by omega)⟩
         have hm39 := mem_get hi39
         obtain ⟨_, hc39, hP39⟩ := hP.at_ _ _ hi39
         have hP390 := hP39
         obtain ⟨kd39, ld39, o39, s39, z39, a39, kk39, rfl, hD39, hn39, hy39⟩ := hP390
         obtain ⟨kx39, ls39, ex39, hK39, hb39⟩ := hn39.open5
         injection ex39 with x1 x; injection x with x2 x; injection x with x3 x; injection x with x4 x; injection x with x5 x
         injection x1 with x1; injection x2 with x2; injection x3 with _ x3; injection x4 with _ x4
         subst x1 x2 x3 x4 x5
         replace hD39 : DsR st.h.get pp39 kd39 ld39 := hD39
         replace hn39 : RdN st.h.get (.mk o39 s39 z39 a39 l39) _ := hn39
         replace hy39 : Bytes pn39 := hy39
         have hl39 := hK39.bnd
         have hd39 := hD39.bnd
         obtain ⟨x39, m39, f39, q39, _, la39, lo39, lp39⟩ := (hP.r.mem M (by simp)).load (i := i) (cs := _) hc39
         refine og K rfl rfl (os_indexAddr (j := i) el_S_api_Pred (congrArg some q39) rfl (by rw [hP.ln]; omega)) rfl fun _ K => ?_
         refine og K rfl rfl (os_fieldAddr fo_api_Pred_2 rfl) rfl fun _ K => ?_
         refine og K rfl rfl (os_load rfl (lp39 _ 2 _ tk_api_Node (by decide))) rfl fun _ K => ?_
         obtain ⟨v42, st42, ev42, rfl, q42⟩ := fine2_ev M.fresh (hn39.mono M.rows)
         refine og K rfl rfl (os_call rfl ev42) rfl fun _ K => ?_
         replace M := M.quiet q42
         refine og K rfl rfl (os_not rfl) rfl fun _ K => ?_
         refine o1 K (os_pick rfl rfl rfl) rfl fun _ K => ?_
         refine wr_nil ?_
         show W _ _ _ _ _ _ _
         refine w_cond (K.opd rfl) (fun h44 => ?_) (fun h44 => ?_)
         · have hb44 := h44
           replace h44 : (smallB (.mk o39 s39 z39 a39 l39) 300) = false := by first | simpa using h44 | (revert h44; cases (smallB (.mk o39 s39 z39 a39 l39) 300) <;> simp)
           refine w_seq ?_
           refine w_region ?_
           refine o1 K (os_assign rfl) rfl fun _ K => ?_
           refine wr_nil ?_
           show W _ _ _ _ _ _ _
           refine w_ret ?_
           refine ⟨.inr rfl, _, (res_one (rs_tmp K rfl)), ?_⟩
           first
            | rfl
            | (simp_all; done)
            | (exfalso; simp_all; done)
         have hb44 := h44
         replace h44 : (smallB (.mk o39 s39 z39 a39 l39) 300) = true := by first | simpa using h44 | (revert h44; cases (smallB (.mk o39 s39 z39 a39 l39) 300) <;> simp)
         refine w_skip ?_
         show W _ _ _ _ _ _ _
         refine w_region ?_
         refine o1 K (os_move rfl) rfl fun _ K => ?_
         refine o1 K (os_add rfl rfl (by omega) (by omega)) rfl fun _ K => ?_
         refine o1 K (os_assign rfl) rfl fun _ K => ?_
         refine wr_nil ?_
         exact ⟨_, (by omega), i + 1, rfl, (.cons (K _ _ rfl) (.cons (K _ _ rfl) .nil)), M.less (.refl _), (by omega)⟩
       replace e35 := of_decide_eq_true e35
       refine gn K rfl rfl rfl rfl fun _ K => ?_
       refine gn K rfl rfl rfl rfl fun _ K => ?_
       refine gn K rfl rfl rfl rfl fun _ K => ?_
       refine gn K rfl rfl rfl rfl fun _ K => ?_
       refine gn K rfl rfl rfl rfl fun _ K => ?_
       refine gn K rfl rfl rfl rfl fun _ K => ?_
       refine gn K rfl rfl rfl rfl fun _ K => ?_
       refine gn K rfl rfl rfl rfl fun _ K => ?_
       refine o1 K (os_pick rfl rfl rfl) rfl fun _ K => ?_
       refine wr_nil ?_
       show W _ _ _ _ _ _ _
       refine w_cond (t := true) (K.opd rfl) (fun _ => ?_) (fun h => by cases h)
       refine w_seq ?_
       refine w_region ?_
       refine o1 K (os_assign rfl) rfl fun _ K => ?_
       refine wr_nil ?_
       show W _ _ _ _ _ _ _
       refine w_ret ?_
       refine ⟨.inr rfl, _, (res_one (rs_tmp K rfl)), ?_⟩
       first
        | rfl
        | (simp_all; done)
        | (exfalso; simp_all; done)
     have hb24 := h24
     replace h24 := of_decide_eq_false h24
     refine w_exit ?_
     show W _ _ _ _ _ _ _
     refine w_seq ?_
     refine w_drawI (l := [(0, 0), (1, 0), (2, 1), (3, 0), (4, 0), (5, 0), (6, 0), (7, 0), (8, 0)]) (by kernel_rfl) ?_
     refine d1 rfl K (os_load rfl (M.load (k := 0) rfl (part_agg tk_api_Prog rfl))) rfl rfl fun _ K => ?_
     obtain ⟨v46, st46, ev46, rfl, q46⟩ := tIs_ev M.fresh (hr.mono M.rows)
     refine dA rfl K (os_call rfl ev46) rfl rfl fun _ K => ?_
     have Mp := M
     replace M := M.quiet q46
     refine wd_load1 rfl K rfl (M.load (k := 0) rfl (part_agg tk_api_Prog rfl)) (Mp.load (k := 0) rfl (part_agg tk_api_Prog rfl)) (eqV_agg (by simp [eqOk_str, eqOk_int, eqOk_bool, eqOk_len hD.len, eqOk_len hP.len, eqOk_len hK.len])) rfl (by decide) fun _ K => ?_
     obtain ⟨v48, st48, ev48, rfl, q48⟩ := rIs_ev M.fresh (hr.mono M.rows)
     refine dA rfl K (os_call rfl ev48) rfl rfl fun _ K => ?_
     have Mp := M
     replace M := M.quiet q48
     refine d1 rfl K (os_eqB un_bool rfl rfl) rfl rfl fun _ K => ?_
     refine dB rfl K (os_move rfl) rfl rfl fun b50 _ e50 K => ?_
     cases b50
     · refine dgn rfl K rfl rfl rfl rfl fun _ _ K => ?_
       refine d1 rfl K (os_pick rfl rfl rfl) rfl rfl fun _ K => ?_
       refine d1 rfl K (os_assign rfl) rfl rfl fun _ K => ?_
       refine wd_nil ?_
       show W _ _ _ _ _ _ _
       refine w_ret ?_
       refine ⟨.inr rfl, _, (res_one (rs_tmp K rfl)), ?_⟩
       first
        | rfl
        | (simp_all; done)
        | (exfalso; simp_all; done)
     have ev51 := known3_ev
     refine dga rfl K rfl rfl (os_call rfl (ev51 _)) rfl rfl fun _ K => ?_
     have Mp := M
     refine d1 rfl K (os_pick rfl rfl rfl) rfl rfl fun _ K => ?_
     refine d1 rfl K (os_assign rfl) rfl rfl fun _ K => ?_
     refine wd_nil ?_
     show W _ _ _ _ _ _ _
     refine w_ret ?_
     refine ⟨.inr rfl, _, (res_one (rs_tmp K rfl)), ?_⟩
     first
      | rfl
      | (simp_all; done)
      | (exfalso; simp_all; done)
   replace e14 := of_decide_eq_true e14
   refine gn K rfl rfl rfl rfl fun _ K => ?_
   refine gn K rfl rfl rfl rfl fun _ K => ?_
   refine gn K rfl rfl rfl rfl fun _ K => ?_
   refine gn K rfl rfl rfl rfl fun _ K => ?_
   refine o1 K (os_pick rfl rfl rfl) rfl fun _ K => ?_
   refine wr_nil ?_
   show W _ _ _ _ _ _ _
   refine w_cond (t := true) (K.opd rfl) (fun _ => ?_) (fun h => by cases h)
   refine w_seq ?_
   refine w_region ?_
   refine o1 K (os_assign rfl) rfl fun _ K => ?_
   refine wr_nil ?_
   show W _ _ _ _ _ _ _
   refine w_ret ?_
   refine ⟨.inr rfl, _, (res_one (rs_tmp K rfl)), ?_⟩
   first
    | rfl
    | (simp_all; done)
    | (exfalso; simp_all; done)
 replace e8 := of_decide_eq_true e8
 refine gn K rfl rfl rfl rfl fun _ K => ?_
 refine gn K rfl rfl rfl rfl fun _ K => ?_
 refine gn K rfl rfl rfl rfl fun _ K => ?_
 refine gn K rfl rfl rfl rfl fun _ K => ?_
 refine o1 K (os_pick rfl rfl rfl) rfl fun _ K => ?_
 refine o1 K (os_move rfl) rfl fun _ K => ?_
 refine gn K rfl rfl rfl rfl fun _ K => ?_
 refine gn K rfl rfl rfl rfl fun _ K => ?_
 refine gn K rfl rfl rfl rfl fun _ K => ?_
 refine gn K rfl rfl rfl rfl fun _ K => ?_
 refine o1 K (os_pick rfl rfl rfl) rfl fun _ K => ?_
 refine wr_nil ?_
 show W _ _ _ _ _ _ _
 refine w_cond (t := true) (K.opd rfl) (fun _ => ?_) (fun h => by cases h)
 refine w_seq ?_
 refine w_region ?_
 refine o1 K (os_assign rfl) rfl fun _ K => ?_
 refine wr_nil ?_
 show W _ _ _ _ _ _ _
 refine w_ret ?_
 refine ⟨.inr rfl, _, (res_one (rs_tmp K rfl)), ?_⟩
 first
  | rfl
  | (simp_all; done)
  | (exfalso; simp_all; done)
end Go.Proofs.YtmjnbdkjekdkgaaDoor
