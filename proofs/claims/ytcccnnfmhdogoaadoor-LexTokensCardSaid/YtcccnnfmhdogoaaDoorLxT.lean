/-
  LexTokens: by the contracts of both readers.
-/
import Derived.Test.YtcccnnfmhdogoaaDoorRrT
import Derived.Test.YtcccnnfmhdogoaaDoorEnvD
namespace Go.Proofs.YtcccnnfmhdogoaaDoor
open Go Go.RowKit
set_option linter.unusedVariables false
set_option linter.unusedSimpArgs false
set_option linter.unnecessarySimpa false
set_option maxRecDepth 100000

theorem eqAgg_tok (a b : Int) (c d e : Int) (s t : List Nat) (x y z : Int) : eqAgg Tryd.prog 39 [.int .i64 a, .str s, .int .i64 b, .int .i64 c] [.int .i64 x, .str t, .int .i64 y, .int .i64 z] =
    bif' (eqI a x) (bif' (eqT s t) (bif' (eqI b y) (bif' (eqI c z) (some true) (some false)) (some false)) (some false)) (some false) := by kernel_rfl
theorem neq_tok {G : Env} {K : List (Nat × AV)} {st : St} {x y : Operand} {yt : TypeId} {t : TokR} (hx : opK G K x = some (.agg t.cells)) (hy : opK G K y = some (.agg t.cells)) : OpS Tryd.prog G K (.binOp .neq 39 x y yt) st (.bool false) st :=
  os_bin hx hy (by
    show ob (eqAgg Tryd.prog 39 [.int .i64 _, .str _, .int .i64 _, .int .i64 _] [.int .i64 _, .str _, .int .i64 _, .int .i64 _]) _ = _
    rw [eqAgg_tok _ _ _ 0 0]
    have hT : ∀ l : List Nat, eqT l l = true := fun l => by rw [eqT_eq]; simp
    rw [hT, eqI_eq, eqI_eq, eqI_eq]
    simp only [beq_self_eq_true]
    rfl)
theorem known2_ev (st : St) : Ev Tryd.prog envD 14 [] st (.bool true) st := ⟨0, 1, rfl⟩

theorem sameTok_ev {st : St} (hf : Fresh st) {ts : List TokR} (hts : ts.length ≤ 1000000) {ka kb : AV} (h1 : RdR st.h.get [] 4 (ts.map TokR.cells) ka) (h2 : RdR st.h.get [] 4 (ts.map TokR.cells) kb) : ∃ v st', Ev Tryd.prog envD 13 [ka, kb] st v st' ∧ v = .bool true ∧ Qt st st' := by
 refine ev_fn rfl Tryd.func13 rfl Tryd.ntmps13 rfl (by decide) (by simp) fun T hT => ?_
 have K : KnT [(0, _), (1, _)] T := (.cons (hT 0) (.cons (hT 1) .nil))
 have M := Mem.start hf
 refine w_seq ?_
 refine w_region ?_
 refine o1 K (os_assign rfl) rfl fun _ K => ?_
 refine wr_nil ?_
 show W _ _ _ _ _ _ _
 refine w_seq ?_
 refine w_seq ?_
 refine w_region ?_
 refine o1 K (os_move rfl) rfl fun _ K => ?_
 refine o1 K (os_lenL un_S_api_Token rfl rfl (h1.len.trans (by rw [List.length_map]))) rfl fun _ K => ?_
 refine o1 K (os_move rfl) rfl fun _ K => ?_
 refine o1 K (os_lenL un_S_api_Token rfl rfl (h2.len.trans (by rw [List.length_map]))) rfl fun _ K => ?_
 refine o1 K (os_neI rfl rfl) rfl fun _ K => ?_
 refine wr_nil ?_
 show W _ _ _ _ _ _ _
 refine w_cond (K.opd rfl) (fun h10 => ?_) (fun h10 => ?_)
 · have hb10 := h10
   replace h10 : ¬ (((ts.length : Nat) : Int) = ((ts.length : Nat) : Int)) := by simpa using h10
   refine w_seq ?_
   refine w_region ?_
   refine o1 K (os_assign rfl) rfl fun _ K => ?_
   refine wr_nil ?_
   show W _ _ _ _ _ _ _
   refine w_ret ?_
   refine ⟨.inr rfl, _, (res_one (rs_tmp K rfl)), ?_⟩
   first
    | exact ⟨rfl, M.qt⟩
    | (exfalso; omega)
 have hb10 := h10
 replace h10 : (((ts.length : Nat) : Int) = ((ts.length : Nat) : Int)) := by simpa using h10
 refine w_skip ?_
 show W _ _ _ _ _ _ _
 refine w_seq ?_
 refine w_seq ?_
 refine w_region ?_
 refine o1 K (os_assign rfl) rfl fun _ K => ?_
 refine wr_nil ?_
 show W _ _ _ _ _ _ _
 refine w_block ?_
 refine w_loop (fun mm1 T st9 => ∃ (i : Nat), mm1 = ts.length - i ∧ KnT [(0, ka), (1, kb), (5, .int .i64 (((i : Nat) : Int)))] T ∧ Mem st.h.get st.n [] st9 [] ∧ i ≤ ts.length) (fun mm1 T st9 hI => ?_) _ _ _ ⟨0, rfl, (.cons (K _ _ rfl) (.cons (K _ _ rfl) (.cons (K _ _ rfl) .nil))), M.less (.refl _), (Nat.zero_le _)⟩
 obtain ⟨i, rfl, K, M, hi⟩ := hI
 refine w_seq ?_
 refine w_seq ?_
 refine w_region ?_
 refine o1 K (os_move rfl) rfl fun _ K => ?_
 refine o1 K (os_move rfl) rfl fun _ K => ?_
 refine o1 K (os_lenL un_S_api_Token rfl rfl (h1.len.trans (by rw [List.length_map]))) rfl fun _ K => ?_
 refine o1 K (os_lss rfl rfl) rfl fun _ K => ?_
 refine wr_nil ?_
 show W _ _ _ _ _ _ _
 refine w_cond (K.opd rfl) (fun h14 => ?_) (fun h14 => ?_)
 · have hb14 := h14
   replace h14 := of_decide_eq_true h14
   refine w_skip ?_
   show W _ _ _ _ _ _ _
   refine w_seq ?_
   refine w_block ?_
   refine w_seq ?_
   refine w_drawI (l := [(0, 0), (1, 0), (2, 0), (3, 0), (4, 0), (5, 0), (6, 0), (7, 0), (8, 0)]) (by kernel_rfl) ?_
   refine d1 rfl K (os_move rfl) rfl rfl fun _ K => ?_
   refine d1 rfl K (os_move rfl) rfl rfl fun _ K => ?_
   obtain ⟨t19, ht19⟩ : ∃ t, ts[i]? = some t := ⟨_, List.getElem?_eq_getElem (by omega)⟩
   obtain ⟨x19, m19, f19, q19, _, la19, lo19, lp19⟩ := (RdR.mem M h1 (by simp)).load (i := i) (cs := _) (by rw [List.getElem?_map, ht19]; rfl)
   refine d1 rfl K (os_indexAddr (j := i) el_S_api_Token (congrArg some q19) rfl (by rw [List.length_map]; omega)) rfl rfl fun _ K => ?_
   refine d1 rfl K (os_load rfl (la19 _ tk_api_Token)) rfl rfl fun _ K => ?_
   refine d1 rfl K (os_move rfl) rfl rfl fun _ K => ?_
   refine d1 rfl K (os_move rfl) rfl rfl fun _ K => ?_
   obtain ⟨x23, m23, f23, q23, _, la23, lo23, lp23⟩ := (RdR.mem M h2 (by simp)).load (i := i) (cs := _) (by rw [List.getElem?_map, ht19]; rfl)
   refine d1 rfl K (os_indexAddr (j := i) el_S_api_Token (congrArg some q23) rfl (by rw [List.length_map]; omega)) rfl rfl fun _ K => ?_
   refine d1 rfl K (os_load rfl (la23 _ tk_api_Token)) rfl rfl fun _ K => ?_
   refine d1 rfl K (neq_tok (t := t19) rfl rfl) rfl rfl fun _ K => ?_
   refine wd_nil ?_
   show W _ _ _ _ _ _ _
   refine w_cond (t := false) (K.opd rfl) (fun h => by cases h) (fun _ => ?_)
   refine w_skip ?_
   show W _ _ _ _ _ _ _
   refine w_region ?_
   refine o1 K (os_move rfl) rfl fun _ K => ?_
   refine o1 K (os_add rfl rfl (by omega) (by omega)) rfl fun _ K => ?_
   refine o1 K (os_assign rfl) rfl fun _ K => ?_
   refine wr_nil ?_
   exact ⟨_, (by omega), i + 1, rfl, (.cons (K _ _ rfl) (.cons (K _ _ rfl) (.cons (K _ _ rfl) .nil))), M.less (.refl _), (by omega)⟩
 have hb14 := h14
 replace h14 := of_decide_eq_false h14
 refine w_exit ?_
 show W _ _ _ _ _ _ _
 refine w_seq ?_
 refine w_region ?_
 refine o1 K (os_assign rfl) rfl fun _ K => ?_
 refine wr_nil ?_
 show W _ _ _ _ _ _ _
 refine w_ret ?_
 refine ⟨.inr rfl, _, (res_one (rs_tmp K rfl)), ?_⟩
 first
  | exact ⟨rfl, M.qt⟩
  | (exfalso; omega)

theorem lexTokens_ev {st : St} (hf : Fresh st) (l : List Nat) (hB : Bytes l) (hl : l.length ≤ 140737488351232) : ∃ v st', Ev Tryd.prog envD 5 [.str l] st v st' ∧ v = .bool true := by
 have htl := tokens_len (bytesOf l)
 have hml : ((tokens (bytesOf l)).1.map TokR.cells).length = (tokens (bytesOf l)).1.length := by simp
 refine ev_fn rfl Tryd.func5 rfl Tryd.ntmps5 rfl (by decide) (by simp) fun T hT => ?_
 have K : KnT [(0, _)] T := (.cons (hT 0) .nil)
 have M := Mem.start hf
 refine w_seq ?_
 refine w_region ?_
 refine o1 K (os_assign rfl) rfl fun _ K => ?_
 refine wr_nil ?_
 show W _ _ _ _ _ _ _
 refine w_seq ?_
 refine w_seq ?_
 refine w_region ?_
 refine o1 K (os_move rfl) rfl fun _ K => ?_
 refine o1 K (os_lenS un_string rfl rfl) rfl fun _ K => ?_
 refine o1 K (os_gtr rfl rfl) rfl fun _ K => ?_
 refine wr_nil ?_
 show W _ _ _ _ _ _ _
 refine w_cond (K.opd rfl) (fun h11 => ?_) (fun h11 => ?_)
 · have hb11 := h11
   replace h11 := of_decide_eq_true h11
   refine w_seq ?_
   refine w_region ?_
   refine o1 K (os_assign rfl) rfl fun _ K => ?_
   refine wr_nil ?_
   show W _ _ _ _ _ _ _
   refine w_ret ?_
   refine ⟨.inr rfl, _, (res_one (rs_tmp K rfl)), ?_⟩
   first
    | rfl
    | (simp_all; done)
    | (exfalso; simp_all; done)
 have hb11 := h11
 replace h11 := of_decide_eq_false h11
 refine w_skip ?_
 show W _ _ _ _ _ _ _
 refine w_seq ?_
 refine w_region ?_
 refine o1 K (os_move rfl) rfl fun _ K => ?_
 obtain ⟨v14, st14, ev14, ks14, rfl, nr14, q14⟩ := tokens_ev M.fresh l (by omega)
 refine o1 K (os_call rfl ev14) rfl fun _ K => ?_
 obtain ⟨A14, hA14, M⟩ := M.callAcc q14 nr14
 refine o1 K (os_move rfl) rfl fun _ K => ?_
 refine o1 K (os_extract rfl rfl) rfl fun _ K => ?_
 refine o1 K (os_extract rfl rfl) rfl fun _ K => ?_
 refine o1 K (os_extract rfl rfl) rfl fun _ K => ?_
 refine o1 K (os_assign rfl) rfl fun _ K => ?_
 refine o1 K (os_assign rfl) rfl fun _ K => ?_
 refine o1 K (os_assign rfl) rfl fun _ K => ?_
 refine wr_nil ?_
 show W _ _ _ _ _ _ _
 refine w_seq ?_
 refine w_region ?_
 refine o1 K (os_move rfl) rfl fun _ K => ?_
 obtain ⟨v20, st20, ev20, ks20, rfl, nr20, q20⟩ := rtokens_ev M.fresh l hB
 refine o1 K (os_call rfl ev20) rfl fun _ K => ?_
 obtain ⟨A20, hA20, M⟩ := M.callAcc q20 nr20
 replace M := Mem.cast (M' := (A14 ++ (A20 ++ []))) M (by simp only [List.append_assoc, List.cons_append, List.nil_append, List.append_nil])
 refine o1 K (os_move rfl) rfl fun _ K => ?_
 refine o1 K (os_extract rfl rfl) rfl fun _ K => ?_
 refine o1 K (os_extract rfl rfl) rfl fun _ K => ?_
 refine o1 K (os_extract rfl rfl) rfl fun _ K => ?_
 refine o1 K (os_assign rfl) rfl fun _ K => ?_
 refine o1 K (os_assign rfl) rfl fun _ K => ?_
 refine o1 K (os_assign rfl) rfl fun _ K => ?_
 refine wr_nil ?_
 show W _ _ _ _ _ _ _
 refine w_seq ?_
 refine w_region ?_
 refine o1 K (os_move rfl) rfl fun _ K => ?_
 refine o1 K (os_move rfl) rfl fun _ K => ?_
 obtain ⟨v26, st26, ev26, rfl, q26⟩ := sameTok_ev M.fresh (ts := (tokens (bytesOf l)).1) (by omega) (Mem.accR (L := []) (A := A14) (B := (A20 ++ [])) M hA14) (Mem.accR (L := ((A14 ++ []))) (A := A20) (B := []) (Mem.cast (M := (A14 ++ (A20 ++ []))) (M' := ((A14 ++ [])) ++ (A20 ++ [])) M (by simp only [List.append_assoc, List.cons_append, List.nil_append, List.append_nil])) hA20)
 refine o1 K (os_call rfl ev26) rfl fun _ K => ?_
 replace M := M.quiet q26
 refine o1 K (os_move rfl) rfl fun _ K => ?_
 refine og K rfl rfl (os_move rfl) rfl fun _ K => ?_
 refine og K rfl rfl (os_move rfl) rfl fun _ K => ?_
 refine og K rfl rfl (os_eqI rfl rfl) rfl fun _ K => ?_
 refine o1 K (os_pick rfl rfl rfl) rfl fun _ K => ?_
 refine oB K (os_move rfl) rfl fun b32 _ e32 K => ?_
 cases b32
 · replace e32 := of_decide_eq_false e32
   refine gn K rfl rfl rfl rfl fun _ K => ?_
   refine gn K rfl rfl rfl rfl fun _ K => ?_
   refine gn K rfl rfl rfl rfl fun _ K => ?_
   refine o1 K (os_pick rfl rfl rfl) rfl fun _ K => ?_
   refine o1 K (os_move rfl) rfl fun _ K => ?_
   refine gn K rfl rfl rfl rfl fun _ K => ?_
   refine o1 K (os_pick rfl rfl rfl) rfl fun _ K => ?_
   refine o1 K (os_assign rfl) rfl fun _ K => ?_
   refine wr_nil ?_
   show W _ _ _ _ _ _ _
   refine w_ret ?_
   refine ⟨.inr rfl, _, (res_one (rs_tmp K rfl)), ?_⟩
   first
    | rfl
    | (simp_all; done)
    | (exfalso; simp_all; done)
 replace e32 := of_decide_eq_true e32
 refine og K rfl rfl (os_move rfl) rfl fun _ K => ?_
 refine og K rfl rfl (os_move rfl) rfl fun _ K => ?_
 refine og K rfl rfl (os_eqI rfl rfl) rfl fun _ K => ?_
 refine o1 K (os_pick rfl rfl rfl) rfl fun _ K => ?_
 refine oB K (os_move rfl) rfl fun b37 _ e37 K => ?_
 cases b37
 · replace e37 := of_decide_eq_false e37
   refine gn K rfl rfl rfl rfl fun _ K => ?_
   refine o1 K (os_pick rfl rfl rfl) rfl fun _ K => ?_
   refine o1 K (os_assign rfl) rfl fun _ K => ?_
   refine wr_nil ?_
   show W _ _ _ _ _ _ _
   refine w_ret ?_
   refine ⟨.inr rfl, _, (res_one (rs_tmp K rfl)), ?_⟩
   first
    | rfl
    | (simp_all; done)
    | (exfalso; simp_all; done)
 replace e37 := of_decide_eq_true e37
 have ev38 := known2_ev
 refine og K rfl rfl (os_call rfl (ev38 _)) rfl fun _ K => ?_
 refine o1 K (os_pick rfl rfl rfl) rfl fun _ K => ?_
 refine o1 K (os_assign rfl) rfl fun _ K => ?_
 refine wr_nil ?_
 show W _ _ _ _ _ _ _
 refine w_ret ?_
 refine ⟨.inr rfl, _, (res_one (rs_tmp K rfl)), ?_⟩
 first
  | rfl
  | (simp_all; done)
  | (exfalso; simp_all; done)
end Go.Proofs.YtcccnnfmhdogoaaDoor
