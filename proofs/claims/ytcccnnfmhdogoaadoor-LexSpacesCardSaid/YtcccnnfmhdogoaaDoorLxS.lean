/-
  LexSpaces: by the contracts of both readers and the law on texts among blanks.
-/
import Derived.Test.YtcccnnfmhdogoaaDoorLexV
import Derived.Test.YtcccnnfmhdogoaaDoorEnvD
namespace Go.Proofs.YtcccnnfmhdogoaaDoor
open Go Go.RowKit
set_option linter.unusedVariables false
set_option linter.unusedSimpArgs false
set_option linter.unnecessarySimpa false
set_option maxRecDepth 100000
set_option maxHeartbeats 4000000

theorem known2_evS (st : St) : Ev Tryd.prog envD 14 [] st (.bool true) st := ⟨0, 1, rfl⟩
theorem lt_last {α : Type} {l ts : List α} {e : α} (h : l = ts ++ [e]) {i : Nat} (hi : (i : Int) + 1 < (l.length : Int)) : i < ts.length := by
  rw [h, List.length_append] at hi
  simp at hi
  omega

theorem lexSpaces_ev0 {st : St} (hf : Fresh st) (l : List Nat) (hB : Bytes l) (hl : l.length ≤ 140737488351232) : ∃ v st', Ev Tryd.prog envD 6 [.str l, .int .i64 0] st v st' ∧ v = .bool true := by
 have hgl : ([32] : List Nat).length = 1 := rfl
 have htl := tokens_len (bytesOf l)
 have hml : ((tokens (bytesOf l)).1.map TokR.cells).length = (tokens (bytesOf l)).1.length := by simp
 have htm := tokens_len (bytesOf ((([32] ++ l) ++ [10]) ++ [32]))
 have hmm : ((tokens (bytesOf ((([32] ++ l) ++ [10]) ++ [32]))).1.map TokR.cells).length = (tokens (bytesOf ((([32] ++ l) ++ [10]) ++ [32]))).1.length := by simp
 refine ev_fn rfl Tryd.func6 rfl Tryd.ntmps6 rfl (by decide) (by simp) fun T hT => ?_
 have K : KnT [(0, _), (1, _)] T := (.cons (hT 0) (.cons (hT 1) .nil))
 have M := Mem.start hf
 refine w_seq ?_
 refine w_region ?_
 refine o1 K (os_assign rfl) rfl fun _ K => ?_
 refine wr_nil ?_
 show W _ _ _ _ _ _ _
 refine w_seq ?_
 refine w_seq ?_
 refine w_region ?_
 refine o1 K (os_move rfl) rfl fun _ K => ?_
 refine o1 K (os_lenS un_string rfl rfl) rfl fun _ K => ?_
 refine o1 K (os_gtr rfl rfl) rfl fun _ K => ?_
 refine oB K (os_move rfl) rfl fun b16 _ e16 K => ?_
 cases b16
 · replace e16 := of_decide_eq_false e16
   refine og K rfl rfl (os_move rfl) rfl fun _ K => ?_
   refine og K rfl rfl (os_lss rfl rfl) rfl fun _ K => ?_
   refine o1 K (os_pick rfl rfl rfl) rfl fun _ K => ?_
   refine oB K (os_move rfl) rfl fun b20 _ e20 K => ?_
   cases b20
   · replace e20 := of_decide_eq_false e20
     refine og K rfl rfl (os_move rfl) rfl fun _ K => ?_
     refine og K rfl rfl (os_gtr rfl rfl) rfl fun _ K => ?_
     refine o1 K (os_pick rfl rfl rfl) rfl fun _ K => ?_
     refine wr_nil ?_
     show W _ _ _ _ _ _ _
     refine w_cond (K.opd rfl) (fun h23 => ?_) (fun h23 => ?_)
     · have hb23 := h23
       replace h23 := of_decide_eq_true h23
       refine w_seq ?_
       refine w_region ?_
       refine o1 K (os_assign rfl) rfl fun _ K => ?_
       refine wr_nil ?_
       show W _ _ _ _ _ _ _
       refine w_ret ?_
       refine ⟨.inr rfl, _, (res_one (rs_tmp K rfl)), ?_⟩
       first
        | rfl
        | (exfalso; simp_all; done)
        | (exfalso; omega)
        | (exfalso; simp_all; omega)
     have hb23 := h23
     replace h23 := of_decide_eq_false h23
     refine w_skip ?_
     show W _ _ _ _ _ _ _
     refine w_seq ?_
     refine w_region ?_
     refine o1 K (os_move rfl) rfl fun _ K => ?_
     obtain ⟨v26, st26, ev26, ks26, rfl, nr26, q26⟩ := rtokens_ev M.fresh l hB
     refine o1 K (os_call rfl ev26) rfl fun _ K => ?_
     obtain ⟨A26, hA26, M⟩ := M.callAcc q26 nr26
     refine o1 K (os_move rfl) rfl fun _ K => ?_
     refine o1 K (os_extract rfl rfl) rfl fun _ K => ?_
     refine o1 K (os_extract rfl rfl) rfl fun _ K => ?_
     refine o1 K (os_extract rfl rfl) rfl fun _ K => ?_
     refine o1 K (os_assign rfl) rfl fun _ K => ?_
     refine o1 K (os_assign rfl) rfl fun _ K => ?_
     refine o1 K (os_assign rfl) rfl fun _ K => ?_
     refine wr_nil ?_
     show W _ _ _ _ _ _ _
     refine w_seq ?_
     refine w_seq ?_
     refine w_region ?_
     refine o1 K (os_move rfl) rfl fun _ K => ?_
     refine o1 K (os_neI rfl rfl) rfl fun _ K => ?_
     refine wr_nil ?_
     show W _ _ _ _ _ _ _
     refine w_cond (K.opd rfl) (fun h31 => ?_) (fun h31 => ?_)
     · have hb31 := h31
       replace h31 : ¬ ((tokens (bytesOf l)).2.2 = 0) := by simpa using h31
       refine w_seq ?_
       refine w_region ?_
       refine o1 K (os_assign rfl) rfl fun _ K => ?_
       refine wr_nil ?_
       show W _ _ _ _ _ _ _
       refine w_ret ?_
       refine ⟨.inr rfl, _, (res_one (rs_tmp K rfl)), ?_⟩
       first
        | rfl
        | (exfalso; simp_all; done)
        | (exfalso; omega)
        | (exfalso; simp_all; omega)
     have hb31 := h31
     replace h31 : ((tokens (bytesOf l)).2.2 = 0) := by simpa using h31
     refine w_skip ?_
     show W _ _ _ _ _ _ _
     refine w_seq ?_
     refine w_region ?_
     refine wr_bs K M sl_S_string ze_string rfl rfl rfl rfl rfl fun c32 _ _ K M => ?_
     replace M : Mem st.h.get st.n [] _ ((c32, 0, [.str [32], .str [9, 10], .str [35, 32, 120, 32, 60, 32, 51, 32, 206, 177, 10], .str [13, 35, 32, 10]]) :: (A26 ++ [])) := M
     refine o1 K (os_move rfl) rfl fun _ K => ?_
     refine o1 K (os_indexAddr el_S_string rfl rfl (by decide)) rfl fun _ K => ?_
     refine o1 K (os_load rfl (M.load (k := 0) rfl (part_one tk_string rfl))) rfl fun _ K => ?_
     refine o1 K (os_assign rfl) rfl fun _ K => ?_
     refine wr_nil ?_
     show W _ _ _ _ _ _ _
     refine w_seq ?_
     refine w_region ?_
     refine o1 K (os_move rfl) rfl fun _ K => ?_
     refine o1 K (os_move rfl) rfl fun _ K => ?_
     refine o1 K (os_addS rfl rfl (by first | omega | (simp only [List.length_append, List.length_cons, List.length_nil]; omega))) rfl fun _ K => ?_
     refine o1 K (os_addS (b := [10]) rfl rfl (by first | omega | (simp only [List.length_append, List.length_cons, List.length_nil]; omega))) rfl fun _ K => ?_
     refine o1 K (os_move rfl) rfl fun _ K => ?_
     refine o1 K (os_addS rfl rfl (by first | omega | (simp only [List.length_append, List.length_cons, List.length_nil]; omega))) rfl fun _ K => ?_
     obtain ⟨ts, hl1, hat, te, hm1, hm2, hm3⟩ := tokens_gapL (gl := [32]) (l := l) gap0 (by simp; omega) h31
     obtain ⟨v43, st43, ev43, ks43, rfl, nr43, q43⟩ := tokens_ev M.fresh ((([32] ++ l) ++ [10]) ++ [32]) (by omega)
     refine o1 K (os_call rfl ev43) rfl fun _ K => ?_
     obtain ⟨A43, hA43, M⟩ := M.callAcc q43 nr43
     replace M := Mem.cast (M' := ((c32, 0, [.str [32], .str [9, 10], .str [35, 32, 120, 32, 60, 32, 51, 32, 206, 177, 10], .str [13, 35, 32, 10]]) :: (A26 ++ (A43 ++ [])))) M (by simp only [List.append_assoc, List.cons_append, List.nil_append, List.append_nil])
     refine o1 K (os_move rfl) rfl fun _ K => ?_
     refine o1 K (os_extract rfl rfl) rfl fun _ K => ?_
     refine o1 K (os_extract rfl rfl) rfl fun _ K => ?_
     refine o1 K (os_extract rfl rfl) rfl fun _ K => ?_
     refine o1 K (os_assign rfl) rfl fun _ K => ?_
     refine o1 K (os_assign rfl) rfl fun _ K => ?_
     refine o1 K (os_assign rfl) rfl fun _ K => ?_
     refine wr_nil ?_
     show W _ _ _ _ _ _ _
     refine w_seq ?_
     refine w_seq ?_
     refine w_region ?_
     refine o1 K (os_move rfl) rfl fun _ K => ?_
     refine o1 K (os_neI rfl rfl) rfl fun _ K => ?_
     refine oB K (os_move rfl) rfl fun b49 _ e49 K => ?_
     cases b49
     · replace e49 : ((tokens (bytesOf ((([32] ++ l) ++ [10]) ++ [32]))).2.2 = 0) := by simpa using e49
       refine og K rfl rfl (os_move rfl) rfl fun _ K => ?_
       refine og K rfl rfl (os_lenL un_S_api_Token rfl rfl hA43.len) rfl fun _ K => ?_
       refine og K rfl rfl (os_move rfl) rfl fun _ K => ?_
       refine og K rfl rfl (os_lenL un_S_api_Token rfl rfl hA26.len) rfl fun _ K => ?_
       refine og K rfl rfl (os_neI rfl rfl) rfl fun _ K => ?_
       refine o1 K (os_pick rfl rfl rfl) rfl fun _ K => ?_
       refine oB K (os_move rfl) rfl fun b56 _ e56 K => ?_
       cases b56
       · replace e56 : (((((tokens (bytesOf ((([32] ++ l) ++ [10]) ++ [32]))).1.map TokR.cells).length : Nat) : Int) = ((((tokens (bytesOf l)).1.map TokR.cells).length : Nat) : Int)) := by simpa using e56
         refine og K rfl rfl (os_move rfl) rfl fun _ K => ?_
         refine og K rfl rfl (os_move rfl) rfl fun _ K => ?_
         refine og K rfl rfl (os_lenS un_string rfl rfl) rfl fun _ K => ?_
         refine og K rfl rfl (os_move rfl) rfl fun _ K => ?_
         refine og K rfl rfl (os_lenS un_string rfl rfl) rfl fun _ K => ?_
         refine og K rfl rfl (os_mulW (c := 2 * ((([32]).length : Nat) : Int)) rfl rfl (IntWalk.i64_in _ (by omega))) rfl fun _ K => ?_
         refine og K rfl rfl (os_add rfl rfl (by omega) (by omega)) rfl fun _ K => ?_
         refine og K rfl rfl (os_add rfl rfl (by omega) (by omega)) rfl fun _ K => ?_
         refine og K rfl rfl (os_neI rfl rfl) rfl fun _ K => ?_
         refine o1 K (os_pick rfl rfl rfl) rfl fun _ K => ?_
         refine wr_nil ?_
         show W _ _ _ _ _ _ _
         refine w_cond (K.opd rfl) (fun h66 => ?_) (fun h66 => ?_)
         · have hb66 := h66
           replace h66 : ¬ ((((tokens (bytesOf ((([32] ++ l) ++ [10]) ++ [32]))).2.1 : Nat) : Int) = (((((l).length : Nat) : Int) + (2 * ((([32]).length : Nat) : Int))) + 1)) := by simpa using h66
           refine w_seq ?_
           refine w_region ?_
           refine o1 K (os_assign rfl) rfl fun _ K => ?_
           refine wr_nil ?_
           show W _ _ _ _ _ _ _
           refine w_ret ?_
           refine ⟨.inr rfl, _, (res_one (rs_tmp K rfl)), ?_⟩
           first
            | rfl
            | (exfalso; simp_all; done)
            | (exfalso; omega)
            | (exfalso; simp_all; omega)
         have hb66 := h66
         replace h66 : ((((tokens (bytesOf ((([32] ++ l) ++ [10]) ++ [32]))).2.1 : Nat) : Int) = (((((l).length : Nat) : Int) + (2 * ((([32]).length : Nat) : Int))) + 1)) := by simpa using h66
         refine w_skip ?_
         show W _ _ _ _ _ _ _
         refine w_seq ?_
         refine w_seq ?_
         refine w_region ?_
         refine o1 K (os_assign rfl) rfl fun _ K => ?_
         refine wr_nil ?_
         show W _ _ _ _ _ _ _
         refine w_block ?_
         refine w_loop (fun mm1 T st9 => ∃ (i : Nat), mm1 = (tokens (bytesOf l)).1.length - i ∧ KnT [(5, ks26), (8, .str [32]), (9, ks43), (12, .int .i64 (((i : Nat) : Int)))] T ∧ Mem st.h.get st.n [] st9 ((c32, 0, [.str [32], .str [9, 10], .str [35, 32, 120, 32, 60, 32, 51, 32, 206, 177, 10], .str [13, 35, 32, 10]]) :: (A26 ++ (A43 ++ []))) ∧ i ≤ (tokens (bytesOf l)).1.length) (fun mm1 T st9 hI => ?_) _ _ _ ⟨0, rfl, (.cons (K _ _ rfl) (.cons (K _ _ rfl) (.cons (K _ _ rfl) (.cons (K _ _ rfl) .nil)))), M.less (.refl _), (Nat.zero_le _)⟩
         obtain ⟨i, rfl, K, M, hi⟩ := hI
         refine w_seq ?_
         refine w_seq ?_
         refine w_region ?_
         refine o1 K (os_move rfl) rfl fun _ K => ?_
         refine o1 K (os_add rfl rfl (by omega) (by omega)) rfl fun _ K => ?_
         refine o1 K (os_move rfl) rfl fun _ K => ?_
         refine o1 K (os_lenL un_S_api_Token rfl rfl hA26.len) rfl fun _ K => ?_
         refine o1 K (os_lss rfl rfl) rfl fun _ K => ?_
         refine wr_nil ?_
         show W _ _ _ _ _ _ _
         refine w_cond (K.opd rfl) (fun h71 => ?_) (fun h71 => ?_)
         · have hb71 := h71
           replace h71 := of_decide_eq_true h71
           refine w_skip ?_
           show W _ _ _ _ _ _ _
           refine w_seq ?_
           refine w_block ?_
           refine w_seq ?_
           refine w_drawI (l := [(0, 0), (1, 0), (2, 0), (3, 0), (4, 0), (5, 0), (6, 0), (7, 0), (8, 0), (9, 0), (10, 0), (11, 0), (12, 0), (13, 0), (14, 0), (15, 0), (16, 0), (17, 0), (18, 0), (19, 0), (20, 0), (21, 0), (22, 0), (23, 0), (24, 0), (25, 0), (26, 0), (27, 0), (28, 0), (29, 0), (30, 0), (31, 0), (32, 0), (33, 0), (34, 0), (35, 0), (36, 0), (37, 0), (38, 0), (39, 0), (40, 0), (41, 0), (42, 0), (43, 0), (44, 0), (45, 0), (46, 0), (47, 0), (48, 0), (49, 0), (50, 0), (51, 0), (52, 0)]) (by kernel_rfl) ?_
           refine d1 rfl K (os_move rfl) rfl rfl fun _ K => ?_
           refine d1 rfl K (os_move rfl) rfl rfl fun _ K => ?_
           have hat76 := hat
           obtain ⟨t76, ht76⟩ : ∃ t, ts[i]? = some t := ⟨_, List.getElem?_eq_getElem (lt_last (i := i) hl1 (by omega))⟩
           replace hat76 := hat76 _ (List.mem_of_getElem? ht76)
           obtain ⟨x76, m76, f76, q76, _, la76, lo76, lp76⟩ := (Mem.accR (L := ((c32, 0, [.str [32], .str [9, 10], .str [35, 32, 120, 32, 60, 32, 51, 32, 206, 177, 10], .str [13, 35, 32, 10]]) :: (A26 ++ []))) (A := A43) (B := []) (Mem.cast (M := ((c32, 0, [.str [32], .str [9, 10], .str [35, 32, 120, 32, 60, 32, 51, 32, 206, 177, 10], .str [13, 35, 32, 10]]) :: (A26 ++ (A43 ++ [])))) (M' := ((c32, 0, [.str [32], .str [9, 10], .str [35, 32, 120, 32, 60, 32, 51, 32, 206, 177, 10], .str [13, 35, 32, 10]]) :: (A26 ++ [])) ++ (A43 ++ [])) M (by simp only [List.append_assoc, List.cons_append, List.nil_append, List.append_nil])) hA43).load (i := i) (cs := [.int .i64 t76.kind, .str (textOf t76.text), .int .i64 (t76.num : Int), .int .i64 ((t76.at' + 1 : Nat) : Int)]) (by rw [List.getElem?_map, hm1, List.getElem?_append_left (by rw [List.length_map]; exact lt_last (i := i) hl1 (by omega)), List.getElem?_map, ht76]; rfl)
           refine d1 rfl K (os_indexAddr (j := i) el_S_api_Token (congrArg some q76) rfl (by rw [List.length_map, hm1, List.length_append, List.length_map]; have := lt_last (i := i) hl1 (by omega); simp; omega)) rfl rfl fun _ K => ?_
           refine d1 rfl K (os_fieldAddr fo_api_Token_0 rfl) rfl rfl fun _ K => ?_
           refine d1 rfl K (os_load rfl (lo76 _ 0 _ tk_int rfl)) rfl rfl fun _ K => ?_
           refine d1 rfl K (os_move rfl) rfl rfl fun _ K => ?_
           refine d1 rfl K (os_move rfl) rfl rfl fun _ K => ?_
           obtain ⟨x81, m81, f81, q81, _, la81, lo81, lp81⟩ := (Mem.accR (L := [(c32, 0, [.str [32], .str [9, 10], .str [35, 32, 120, 32, 60, 32, 51, 32, 206, 177, 10], .str [13, 35, 32, 10]])]) (A := A26) (B := (A43 ++ [])) M hA26).load (i := i) (cs := _) (by rw [List.getElem?_map, hl1, List.getElem?_append_left (lt_last (i := i) hl1 (by omega)), ht76]; rfl)
           refine d1 rfl K (os_indexAddr (j := i) el_S_api_Token (congrArg some q81) rfl (by rw [List.length_map]; omega)) rfl rfl fun _ K => ?_
           refine d1 rfl K (os_fieldAddr fo_api_Token_0 rfl) rfl rfl fun _ K => ?_
           refine d1 rfl K (os_load rfl (lo81 _ 0 _ tk_int rfl)) rfl rfl fun _ K => ?_
           refine d1 rfl K (os_neI rfl rfl) rfl rfl fun _ K => ?_
           refine dB rfl K (os_move rfl) rfl rfl fun b85 _ e85 K => ?_
           cases b85
           · replace e85 : (t76.kind = t76.kind) := by simpa using e85
             refine dg rfl K rfl rfl (os_move rfl) rfl rfl fun _ K => ?_
             refine dg rfl K rfl rfl (os_move rfl) rfl rfl fun _ K => ?_
             obtain ⟨x88, m88, f88, q88, _, la88, lo88, lp88⟩ := (Mem.accR (L := ((c32, 0, [.str [32], .str [9, 10], .str [35, 32, 120, 32, 60, 32, 51, 32, 206, 177, 10], .str [13, 35, 32, 10]]) :: (A26 ++ []))) (A := A43) (B := []) (Mem.cast (M := ((c32, 0, [.str [32], .str [9, 10], .str [35, 32, 120, 32, 60, 32, 51, 32, 206, 177, 10], .str [13, 35, 32, 10]]) :: (A26 ++ (A43 ++ [])))) (M' := ((c32, 0, [.str [32], .str [9, 10], .str [35, 32, 120, 32, 60, 32, 51, 32, 206, 177, 10], .str [13, 35, 32, 10]]) :: (A26 ++ [])) ++ (A43 ++ [])) M (by simp only [List.append_assoc, List.cons_append, List.nil_append, List.append_nil])) hA43).load (i := i) (cs := [.int .i64 t76.kind, .str (textOf t76.text), .int .i64 (t76.num : Int), .int .i64 ((t76.at' + 1 : Nat) : Int)]) (by rw [List.getElem?_map, hm1, List.getElem?_append_left (by rw [List.length_map]; exact lt_last (i := i) hl1 (by omega)), List.getElem?_map, ht76]; rfl)
             refine dg rfl K rfl rfl (os_indexAddr (j := i) el_S_api_Token (congrArg some q88) rfl (by rw [List.length_map, hm1, List.length_append, List.length_map]; have := lt_last (i := i) hl1 (by omega); simp; omega)) rfl rfl fun _ K => ?_
             refine dg rfl K rfl rfl (os_fieldAddr fo_api_Token_1 rfl) rfl rfl fun _ K => ?_
             refine dg rfl K rfl rfl (os_load rfl (lo88 _ 1 _ tk_string rfl)) rfl rfl fun _ K => ?_
             refine dg rfl K rfl rfl (os_move rfl) rfl rfl fun _ K => ?_
             refine dg rfl K rfl rfl (os_move rfl) rfl rfl fun _ K => ?_
             obtain ⟨x93, m93, f93, q93, _, la93, lo93, lp93⟩ := (Mem.accR (L := [(c32, 0, [.str [32], .str [9, 10], .str [35, 32, 120, 32, 60, 32, 51, 32, 206, 177, 10], .str [13, 35, 32, 10]])]) (A := A26) (B := (A43 ++ [])) M hA26).load (i := i) (cs := _) (by rw [List.getElem?_map, hl1, List.getElem?_append_left (lt_last (i := i) hl1 (by omega)), ht76]; rfl)
             refine dg rfl K rfl rfl (os_indexAddr (j := i) el_S_api_Token (congrArg some q93) rfl (by rw [List.length_map]; omega)) rfl rfl fun _ K => ?_
             refine dg rfl K rfl rfl (os_fieldAddr fo_api_Token_1 rfl) rfl rfl fun _ K => ?_
             refine dg rfl K rfl rfl (os_load rfl (lo93 _ 1 _ tk_string rfl)) rfl rfl fun _ K => ?_
             refine dg rfl K rfl rfl (os_neS rfl rfl) rfl rfl fun _ K => ?_
             refine d1 rfl K (os_pick rfl rfl rfl) rfl rfl fun _ K => ?_
             refine dB rfl K (os_move rfl) rfl rfl fun b98 _ e98 K => ?_
             cases b98
             · replace e98 : ((textOf t76.text) = (textOf t76.text)) := by simpa using e98
               refine dg rfl K rfl rfl (os_move rfl) rfl rfl fun _ K => ?_
               refine dg rfl K rfl rfl (os_move rfl) rfl rfl fun _ K => ?_
               obtain ⟨x101, m101, f101, q101, _, la101, lo101, lp101⟩ := (Mem.accR (L := ((c32, 0, [.str [32], .str [9, 10], .str [35, 32, 120, 32, 60, 32, 51, 32, 206, 177, 10], .str [13, 35, 32, 10]]) :: (A26 ++ []))) (A := A43) (B := []) (Mem.cast (M := ((c32, 0, [.str [32], .str [9, 10], .str [35, 32, 120, 32, 60, 32, 51, 32, 206, 177, 10], .str [13, 35, 32, 10]]) :: (A26 ++ (A43 ++ [])))) (M' := ((c32, 0, [.str [32], .str [9, 10], .str [35, 32, 120, 32, 60, 32, 51, 32, 206, 177, 10], .str [13, 35, 32, 10]]) :: (A26 ++ [])) ++ (A43 ++ [])) M (by simp only [List.append_assoc, List.cons_append, List.nil_append, List.append_nil])) hA43).load (i := i) (cs := [.int .i64 t76.kind, .str (textOf t76.text), .int .i64 (t76.num : Int), .int .i64 ((t76.at' + 1 : Nat) : Int)]) (by rw [List.getElem?_map, hm1, List.getElem?_append_left (by rw [List.length_map]; exact lt_last (i := i) hl1 (by omega)), List.getElem?_map, ht76]; rfl)
               refine dg rfl K rfl rfl (os_indexAddr (j := i) el_S_api_Token (congrArg some q101) rfl (by rw [List.length_map, hm1, List.length_append, List.length_map]; have := lt_last (i := i) hl1 (by omega); simp; omega)) rfl rfl fun _ K => ?_
               refine dg rfl K rfl rfl (os_fieldAddr fo_api_Token_2 rfl) rfl rfl fun _ K => ?_
               refine dg rfl K rfl rfl (os_load rfl (lo101 _ 2 _ tk_int rfl)) rfl rfl fun _ K => ?_
               refine dg rfl K rfl rfl (os_move rfl) rfl rfl fun _ K => ?_
               refine dg rfl K rfl rfl (os_move rfl) rfl rfl fun _ K => ?_
               obtain ⟨x106, m106, f106, q106, _, la106, lo106, lp106⟩ := (Mem.accR (L := [(c32, 0, [.str [32], .str [9, 10], .str [35, 32, 120, 32, 60, 32, 51, 32, 206, 177, 10], .str [13, 35, 32, 10]])]) (A := A26) (B := (A43 ++ [])) M hA26).load (i := i) (cs := _) (by rw [List.getElem?_map, hl1, List.getElem?_append_left (lt_last (i := i) hl1 (by omega)), ht76]; rfl)
               refine dg rfl K rfl rfl (os_indexAddr (j := i) el_S_api_Token (congrArg some q106) rfl (by rw [List.length_map]; omega)) rfl rfl fun _ K => ?_
               refine dg rfl K rfl rfl (os_fieldAddr fo_api_Token_2 rfl) rfl rfl fun _ K => ?_
               refine dg rfl K rfl rfl (os_load rfl (lo106 _ 2 _ tk_int rfl)) rfl rfl fun _ K => ?_
               refine dg rfl K rfl rfl (os_neI rfl rfl) rfl rfl fun _ K => ?_
               refine d1 rfl K (os_pick rfl rfl rfl) rfl rfl fun _ K => ?_
               refine dB rfl K (os_move rfl) rfl rfl fun b111 _ e111 K => ?_
               cases b111
               · replace e111 : (((t76.num : Nat) : Int) = ((t76.num : Nat) : Int)) := by simpa using e111
                 refine dg rfl K rfl rfl (os_move rfl) rfl rfl fun _ K => ?_
                 refine dg rfl K rfl rfl (os_move rfl) rfl rfl fun _ K => ?_
                 obtain ⟨x114, m114, f114, q114, _, la114, lo114, lp114⟩ := (Mem.accR (L := ((c32, 0, [.str [32], .str [9, 10], .str [35, 32, 120, 32, 60, 32, 51, 32, 206, 177, 10], .str [13, 35, 32, 10]]) :: (A26 ++ []))) (A := A43) (B := []) (Mem.cast (M := ((c32, 0, [.str [32], .str [9, 10], .str [35, 32, 120, 32, 60, 32, 51, 32, 206, 177, 10], .str [13, 35, 32, 10]]) :: (A26 ++ (A43 ++ [])))) (M' := ((c32, 0, [.str [32], .str [9, 10], .str [35, 32, 120, 32, 60, 32, 51, 32, 206, 177, 10], .str [13, 35, 32, 10]]) :: (A26 ++ [])) ++ (A43 ++ [])) M (by simp only [List.append_assoc, List.cons_append, List.nil_append, List.append_nil])) hA43).load (i := i) (cs := [.int .i64 t76.kind, .str (textOf t76.text), .int .i64 (t76.num : Int), .int .i64 ((t76.at' + 1 : Nat) : Int)]) (by rw [List.getElem?_map, hm1, List.getElem?_append_left (by rw [List.length_map]; exact lt_last (i := i) hl1 (by omega)), List.getElem?_map, ht76]; rfl)
                 refine dg rfl K rfl rfl (os_indexAddr (j := i) el_S_api_Token (congrArg some q114) rfl (by rw [List.length_map, hm1, List.length_append, List.length_map]; have := lt_last (i := i) hl1 (by omega); simp; omega)) rfl rfl fun _ K => ?_
                 refine dg rfl K rfl rfl (os_fieldAddr fo_api_Token_3 rfl) rfl rfl fun _ K => ?_
                 refine dg rfl K rfl rfl (os_load rfl (lo114 _ 3 _ tk_int rfl)) rfl rfl fun _ K => ?_
                 refine dg rfl K rfl rfl (os_move rfl) rfl rfl fun _ K => ?_
                 refine dg rfl K rfl rfl (os_move rfl) rfl rfl fun _ K => ?_
                 obtain ⟨x119, m119, f119, q119, _, la119, lo119, lp119⟩ := (Mem.accR (L := [(c32, 0, [.str [32], .str [9, 10], .str [35, 32, 120, 32, 60, 32, 51, 32, 206, 177, 10], .str [13, 35, 32, 10]])]) (A := A26) (B := (A43 ++ [])) M hA26).load (i := i) (cs := _) (by rw [List.getElem?_map, hl1, List.getElem?_append_left (lt_last (i := i) hl1 (by omega)), ht76]; rfl)
                 refine dg rfl K rfl rfl (os_indexAddr (j := i) el_S_api_Token (congrArg some q119) rfl (by rw [List.length_map]; omega)) rfl rfl fun _ K => ?_
                 refine dg rfl K rfl rfl (os_fieldAddr fo_api_Token_3 rfl) rfl rfl fun _ K => ?_
                 refine dg rfl K rfl rfl (os_load rfl (lo119 _ 3 _ tk_int rfl)) rfl rfl fun _ K => ?_
                 refine dg rfl K rfl rfl (os_move rfl) rfl rfl fun _ K => ?_
                 refine dg rfl K rfl rfl (os_lenS un_string rfl rfl) rfl rfl fun _ K => ?_
                 refine dg rfl K rfl rfl (os_add rfl rfl (by omega) (by omega)) rfl rfl fun _ K => ?_
                 refine dg rfl K rfl rfl (os_neI rfl rfl) rfl rfl fun _ K => ?_
                 refine d1 rfl K (os_pick rfl rfl rfl) rfl rfl fun _ K => ?_
                 refine wd_nil ?_
                 show W _ _ _ _ _ _ _
                 refine w_cond (K.opd rfl) (fun h126 => ?_) (fun h126 => ?_)
                 · have hb126 := h126
                   replace h126 : ¬ ((((t76.at' + 1) : Nat) : Int) = (((t76.at' : Nat) : Int) + ((([32]).length : Nat) : Int))) := by simpa using h126
                   refine w_seq ?_
                   refine w_region ?_
                   refine o1 K (os_assign rfl) rfl fun _ K => ?_
                   refine wr_nil ?_
                   show W _ _ _ _ _ _ _
                   refine w_ret ?_
                   refine ⟨.inr rfl, _, (res_one (rs_tmp K rfl)), ?_⟩
                   first
                    | rfl
                    | (exfalso; simp_all; done)
                    | (exfalso; omega)
                    | (exfalso; simp_all; omega)
                 have hb126 := h126
                 replace h126 : ((((t76.at' + 1) : Nat) : Int) = (((t76.at' : Nat) : Int) + ((([32]).length : Nat) : Int))) := by simpa using h126
                 refine w_skip ?_
                 show W _ _ _ _ _ _ _
                 refine w_region ?_
                 refine o1 K (os_move rfl) rfl fun _ K => ?_
                 refine o1 K (os_add rfl rfl (by omega) (by omega)) rfl fun _ K => ?_
                 refine o1 K (os_assign rfl) rfl fun _ K => ?_
                 refine wr_nil ?_
                 exact ⟨_, (by omega), i + 1, rfl, (.cons (K _ _ rfl) (.cons (K _ _ rfl) (.cons (K _ _ rfl) (.cons (K _ _ rfl) .nil)))), M.less (.refl _), (by omega)⟩
               replace e111 : ¬ (((t76.num : Nat) : Int) = ((t76.num : Nat) : Int)) := by simpa using e111
               refine dgn rfl K rfl rfl rfl rfl fun _ _ K => ?_
               refine dgn rfl K rfl rfl rfl rfl fun _ _ K => ?_
               refine dgn rfl K rfl rfl rfl rfl fun _ _ K => ?_
               refine dgn rfl K rfl rfl rfl rfl fun _ _ K => ?_
               refine dgn rfl K rfl rfl rfl rfl fun _ _ K => ?_
               refine dgn rfl K rfl rfl rfl rfl fun _ _ K => ?_
               refine dgn rfl K rfl rfl rfl rfl fun _ _ K => ?_
               refine dgn rfl K rfl rfl rfl rfl fun _ _ K => ?_
               refine dgn rfl K rfl rfl rfl rfl fun _ _ K => ?_
               refine dgn rfl K rfl rfl rfl rfl fun _ _ K => ?_
               refine dgn rfl K rfl rfl rfl rfl fun _ _ K => ?_
               refine dgn rfl K rfl rfl rfl rfl fun _ _ K => ?_
               refine dgn rfl K rfl rfl rfl rfl fun _ _ K => ?_
               refine dgn rfl K rfl rfl rfl rfl fun _ _ K => ?_
               refine d1 rfl K (os_pick rfl rfl rfl) rfl rfl fun _ K => ?_
               refine wd_nil ?_
               show W _ _ _ _ _ _ _
               refine w_cond (t := true) (K.opd rfl) (fun _ => ?_) (fun h => by cases h)
               refine w_seq ?_
               refine w_region ?_
               refine o1 K (os_assign rfl) rfl fun _ K => ?_
               refine wr_nil ?_
               show W _ _ _ _ _ _ _
               refine w_ret ?_
               refine ⟨.inr rfl, _, (res_one (rs_tmp K rfl)), ?_⟩
               first
                | rfl
                | (exfalso; simp_all; done)
                | (exfalso; omega)
                | (exfalso; simp_all; omega)
             replace e98 : ¬ ((textOf t76.text) = (textOf t76.text)) := by simpa using e98
             refine dgn rfl K rfl rfl rfl rfl fun _ _ K => ?_
             refine dgn rfl K rfl rfl rfl rfl fun _ _ K => ?_
             refine dgn rfl K rfl rfl rfl rfl fun _ _ K => ?_
             refine dgn rfl K rfl rfl rfl rfl fun _ _ K => ?_
             refine dgn rfl K rfl rfl rfl rfl fun _ _ K => ?_
             refine dgn rfl K rfl rfl rfl rfl fun _ _ K => ?_
             refine dgn rfl K rfl rfl rfl rfl fun _ _ K => ?_
             refine dgn rfl K rfl rfl rfl rfl fun _ _ K => ?_
             refine dgn rfl K rfl rfl rfl rfl fun _ _ K => ?_
             refine dgn rfl K rfl rfl rfl rfl fun _ _ K => ?_
             refine dgn rfl K rfl rfl rfl rfl fun _ _ K => ?_
             refine d1 rfl K (os_pick rfl rfl rfl) rfl rfl fun _ K => ?_
             refine d1 rfl K (os_move rfl) rfl rfl fun _ K => ?_
             refine dgn rfl K rfl rfl rfl rfl fun _ _ K => ?_
             refine dgn rfl K rfl rfl rfl rfl fun _ _ K => ?_
             refine dgn rfl K rfl rfl rfl rfl fun _ _ K => ?_
             refine dgn rfl K rfl rfl rfl rfl fun _ _ K => ?_
             refine dgn rfl K rfl rfl rfl rfl fun _ _ K => ?_
             refine dgn rfl K rfl rfl rfl rfl fun _ _ K => ?_
             refine dgn rfl K rfl rfl rfl rfl fun _ _ K => ?_
             refine dgn rfl K rfl rfl rfl rfl fun _ _ K => ?_
             refine dgn rfl K rfl rfl rfl rfl fun _ _ K => ?_
             refine dgn rfl K rfl rfl rfl rfl fun _ _ K => ?_
             refine dgn rfl K rfl rfl rfl rfl fun _ _ K => ?_
             refine dgn rfl K rfl rfl rfl rfl fun _ _ K => ?_
             refine dgn rfl K rfl rfl rfl rfl fun _ _ K => ?_
             refine dgn rfl K rfl rfl rfl rfl fun _ _ K => ?_
             refine d1 rfl K (os_pick rfl rfl rfl) rfl rfl fun _ K => ?_
             refine wd_nil ?_
             show W _ _ _ _ _ _ _
             refine w_cond (t := true) (K.opd rfl) (fun _ => ?_) (fun h => by cases h)
             refine w_seq ?_
             refine w_region ?_
             refine o1 K (os_assign rfl) rfl fun _ K => ?_
             refine wr_nil ?_
             show W _ _ _ _ _ _ _
             refine w_ret ?_
             refine ⟨.inr rfl, _, (res_one (rs_tmp K rfl)), ?_⟩
             first
              | rfl
              | (exfalso; simp_all; done)
              | (exfalso; omega)
              | (exfalso; simp_all; omega)
           replace e85 : ¬ (t76.kind = t76.kind) := by simpa using e85
           refine dgn rfl K rfl rfl rfl rfl fun _ _ K => ?_
           refine dgn rfl K rfl rfl rfl rfl fun _ _ K => ?_
           refine dgn rfl K rfl rfl rfl rfl fun _ _ K => ?_
           refine dgn rfl K rfl rfl rfl rfl fun _ _ K => ?_
           refine dgn rfl K rfl rfl rfl rfl fun _ _ K => ?_
           refine dgn rfl K rfl rfl rfl rfl fun _ _ K => ?_
           refine dgn rfl K rfl rfl rfl rfl fun _ _ K => ?_
           refine dgn rfl K rfl rfl rfl rfl fun _ _ K => ?_
           refine dgn rfl K rfl rfl rfl rfl fun _ _ K => ?_
           refine dgn rfl K rfl rfl rfl rfl fun _ _ K => ?_
           refine dgn rfl K rfl rfl rfl rfl fun _ _ K => ?_
           refine d1 rfl K (os_pick rfl rfl rfl) rfl rfl fun _ K => ?_
           refine d1 rfl K (os_move rfl) rfl rfl fun _ K => ?_
           refine dgn rfl K rfl rfl rfl rfl fun _ _ K => ?_
           refine dgn rfl K rfl rfl rfl rfl fun _ _ K => ?_
           refine dgn rfl K rfl rfl rfl rfl fun _ _ K => ?_
           refine dgn rfl K rfl rfl rfl rfl fun _ _ K => ?_
           refine dgn rfl K rfl rfl rfl rfl fun _ _ K => ?_
           refine dgn rfl K rfl rfl rfl rfl fun _ _ K => ?_
           refine dgn rfl K rfl rfl rfl rfl fun _ _ K => ?_
           refine dgn rfl K rfl rfl rfl rfl fun _ _ K => ?_
           refine dgn rfl K rfl rfl rfl rfl fun _ _ K => ?_
           refine dgn rfl K rfl rfl rfl rfl fun _ _ K => ?_
           refine dgn rfl K rfl rfl rfl rfl fun _ _ K => ?_
           refine d1 rfl K (os_pick rfl rfl rfl) rfl rfl fun _ K => ?_
           refine d1 rfl K (os_move rfl) rfl rfl fun _ K => ?_
           refine dgn rfl K rfl rfl rfl rfl fun _ _ K => ?_
           refine dgn rfl K rfl rfl rfl rfl fun _ _ K => ?_
           refine dgn rfl K rfl rfl rfl rfl fun _ _ K => ?_
           refine dgn rfl K rfl rfl rfl rfl fun _ _ K => ?_
           refine dgn rfl K rfl rfl rfl rfl fun _ _ K => ?_
           refine dgn rfl K rfl rfl rfl rfl fun _ _ K => ?_
           refine dgn rfl K rfl rfl rfl rfl fun _ _ K => ?_
           refine dgn rfl K rfl rfl rfl rfl fun _ _ K => ?_
           refine dgn rfl K rfl rfl rfl rfl fun _ _ K => ?_
           refine dgn rfl K rfl rfl rfl rfl fun _ _ K => ?_
           refine dgn rfl K rfl rfl rfl rfl fun _ _ K => ?_
           refine dgn rfl K rfl rfl rfl rfl fun _ _ K => ?_
           refine dgn rfl K rfl rfl rfl rfl fun _ _ K => ?_
           refine dgn rfl K rfl rfl rfl rfl fun _ _ K => ?_
           refine d1 rfl K (os_pick rfl rfl rfl) rfl rfl fun _ K => ?_
           refine wd_nil ?_
           show W _ _ _ _ _ _ _
           refine w_cond (t := true) (K.opd rfl) (fun _ => ?_) (fun h => by cases h)
           refine w_seq ?_
           refine w_region ?_
           refine o1 K (os_assign rfl) rfl fun _ K => ?_
           refine wr_nil ?_
           show W _ _ _ _ _ _ _
           refine w_ret ?_
           refine ⟨.inr rfl, _, (res_one (rs_tmp K rfl)), ?_⟩
           first
            | rfl
            | (exfalso; simp_all; done)
            | (exfalso; omega)
            | (exfalso; simp_all; omega)
         have hb71 := h71
         replace h71 := of_decide_eq_false h71
         refine w_exit ?_
         show W _ _ _ _ _ _ _
         refine w_seq ?_
         refine w_region ?_
         have ev127 := known2_evS
         refine o1 K (os_call rfl (ev127 _)) rfl fun _ K => ?_
         refine o1 K (os_assign rfl) rfl fun _ K => ?_
         refine wr_nil ?_
         show W _ _ _ _ _ _ _
         refine w_ret ?_
         refine ⟨.inr rfl, _, (res_one (rs_tmp K rfl)), ?_⟩
         first
          | rfl
          | (exfalso; simp_all; done)
          | (exfalso; omega)
          | (exfalso; simp_all; omega)
       replace e56 : ¬ (((((tokens (bytesOf ((([32] ++ l) ++ [10]) ++ [32]))).1.map TokR.cells).length : Nat) : Int) = ((((tokens (bytesOf l)).1.map TokR.cells).length : Nat) : Int)) := by simpa using e56
       refine gn K rfl rfl rfl rfl fun _ K => ?_
       refine gn K rfl rfl rfl rfl fun _ K => ?_
       refine gn K rfl rfl rfl rfl fun _ K => ?_
       refine gn K rfl rfl rfl rfl fun _ K => ?_
       refine gn K rfl rfl rfl rfl fun _ K => ?_
       refine gn K rfl rfl rfl rfl fun _ K => ?_
       refine gn K rfl rfl rfl rfl fun _ K => ?_
       refine gn K rfl rfl rfl rfl fun _ K => ?_
       refine gn K rfl rfl rfl rfl fun _ K => ?_
       refine o1 K (os_pick rfl rfl rfl) rfl fun _ K => ?_
       refine wr_nil ?_
       show W _ _ _ _ _ _ _
       refine w_cond (t := true) (K.opd rfl) (fun _ => ?_) (fun h => by cases h)
       refine w_seq ?_
       refine w_region ?_
       refine o1 K (os_assign rfl) rfl fun _ K => ?_
       refine wr_nil ?_
       show W _ _ _ _ _ _ _
       refine w_ret ?_
       refine ⟨.inr rfl, _, (res_one (rs_tmp K rfl)), ?_⟩
       first
        | rfl
        | (exfalso; simp_all; done)
        | (exfalso; omega)
        | (exfalso; simp_all; omega)
     replace e49 : ¬ ((tokens (bytesOf ((([32] ++ l) ++ [10]) ++ [32]))).2.2 = 0) := by simpa using e49
     refine gn K rfl rfl rfl rfl fun _ K => ?_
     refine gn K rfl rfl rfl rfl fun _ K => ?_
     refine gn K rfl rfl rfl rfl fun _ K => ?_
     refine gn K rfl rfl rfl rfl fun _ K => ?_
     refine gn K rfl rfl rfl rfl fun _ K => ?_
     refine o1 K (os_pick rfl rfl rfl) rfl fun _ K => ?_
     refine o1 K (os_move rfl) rfl fun _ K => ?_
     refine gn K rfl rfl rfl rfl fun _ K => ?_
     refine gn K rfl rfl rfl rfl fun _ K => ?_
     refine gn K rfl rfl rfl rfl fun _ K => ?_
     refine gn K rfl rfl rfl rfl fun _ K => ?_
     refine gn K rfl rfl rfl rfl fun _ K => ?_
     refine gn K rfl rfl rfl rfl fun _ K => ?_
     refine gn K rfl rfl rfl rfl fun _ K => ?_
     refine gn K rfl rfl rfl rfl fun _ K => ?_
     refine gn K rfl rfl rfl rfl fun _ K => ?_
     refine o1 K (os_pick rfl rfl rfl) rfl fun _ K => ?_
     refine wr_nil ?_
     show W _ _ _ _ _ _ _
     refine w_cond (t := true) (K.opd rfl) (fun _ => ?_) (fun h => by cases h)
     refine w_seq ?_
     refine w_region ?_
     refine o1 K (os_assign rfl) rfl fun _ K => ?_
     refine wr_nil ?_
     show W _ _ _ _ _ _ _
     refine w_ret ?_
     refine ⟨.inr rfl, _, (res_one (rs_tmp K rfl)), ?_⟩
     first
      | rfl
      | (exfalso; simp_all; done)
      | (exfalso; omega)
      | (exfalso; simp_all; omega)
   replace e20 := of_decide_eq_true e20
   refine gn K rfl rfl rfl rfl fun _ K => ?_
   refine gn K rfl rfl rfl rfl fun _ K => ?_
   refine o1 K (os_pick rfl rfl rfl) rfl fun _ K => ?_
   refine wr_nil ?_
   show W _ _ _ _ _ _ _
   refine w_cond (t := true) (K.opd rfl) (fun _ => ?_) (fun h => by cases h)
   refine w_seq ?_
   refine w_region ?_
   refine o1 K (os_assign rfl) rfl fun _ K => ?_
   refine wr_nil ?_
   show W _ _ _ _ _ _ _
   refine w_ret ?_
   refine ⟨.inr rfl, _, (res_one (rs_tmp K rfl)), ?_⟩
   first
    | rfl
    | (exfalso; simp_all; done)
    | (exfalso; omega)
    | (exfalso; simp_all; omega)
 replace e16 := of_decide_eq_true e16
 refine gn K rfl rfl rfl rfl fun _ K => ?_
 refine gn K rfl rfl rfl rfl fun _ K => ?_
 refine o1 K (os_pick rfl rfl rfl) rfl fun _ K => ?_
 refine o1 K (os_move rfl) rfl fun _ K => ?_
 refine gn K rfl rfl rfl rfl fun _ K => ?_
 refine gn K rfl rfl rfl rfl fun _ K => ?_
 refine o1 K (os_pick rfl rfl rfl) rfl fun _ K => ?_
 refine wr_nil ?_
 show W _ _ _ _ _ _ _
 refine w_cond (t := true) (K.opd rfl) (fun _ => ?_) (fun h => by cases h)
 refine w_seq ?_
 refine w_region ?_
 refine o1 K (os_assign rfl) rfl fun _ K => ?_
 refine wr_nil ?_
 show W _ _ _ _ _ _ _
 refine w_ret ?_
 refine ⟨.inr rfl, _, (res_one (rs_tmp K rfl)), ?_⟩
 first
  | rfl
  | (exfalso; simp_all; done)
  | (exfalso; omega)
  | (exfalso; simp_all; omega)

theorem lexSpaces_ev1 {st : St} (hf : Fresh st) (l : List Nat) (hB : Bytes l) (hl : l.length ≤ 140737488351232) : ∃ v st', Ev Tryd.prog envD 6 [.str l, .int .i64 1] st v st' ∧ v = .bool true := by
 have hgl : ([9, 10] : List Nat).length = 2 := rfl
 have htl := tokens_len (bytesOf l)
 have hml : ((tokens (bytesOf l)).1.map TokR.cells).length = (tokens (bytesOf l)).1.length := by simp
 have htm := tokens_len (bytesOf ((([9, 10] ++ l) ++ [10]) ++ [9, 10]))
 have hmm : ((tokens (bytesOf ((([9, 10] ++ l) ++ [10]) ++ [9, 10]))).1.map TokR.cells).length = (tokens (bytesOf ((([9, 10] ++ l) ++ [10]) ++ [9, 10]))).1.length := by simp
 refine ev_fn rfl Tryd.func6 rfl Tryd.ntmps6 rfl (by decide) (by simp) fun T hT => ?_
 have K : KnT [(0, _), (1, _)] T := (.cons (hT 0) (.cons (hT 1) .nil))
 have M := Mem.start hf
 refine w_seq ?_
 refine w_region ?_
 refine o1 K (os_assign rfl) rfl fun _ K => ?_
 refine wr_nil ?_
 show W _ _ _ _ _ _ _
 refine w_seq ?_
 refine w_seq ?_
 refine w_region ?_
 refine o1 K (os_move rfl) rfl fun _ K => ?_
 refine o1 K (os_lenS un_string rfl rfl) rfl fun _ K => ?_
 refine o1 K (os_gtr rfl rfl) rfl fun _ K => ?_
 refine oB K (os_move rfl) rfl fun b16 _ e16 K => ?_
 cases b16
 · replace e16 := of_decide_eq_false e16
   refine og K rfl rfl (os_move rfl) rfl fun _ K => ?_
   refine og K rfl rfl (os_lss rfl rfl) rfl fun _ K => ?_
   refine o1 K (os_pick rfl rfl rfl) rfl fun _ K => ?_
   refine oB K (os_move rfl) rfl fun b20 _ e20 K => ?_
   cases b20
   · replace e20 := of_decide_eq_false e20
     refine og K rfl rfl (os_move rfl) rfl fun _ K => ?_
     refine og K rfl rfl (os_gtr rfl rfl) rfl fun _ K => ?_
     refine o1 K (os_pick rfl rfl rfl) rfl fun _ K => ?_
     refine wr_nil ?_
     show W _ _ _ _ _ _ _
     refine w_cond (K.opd rfl) (fun h23 => ?_) (fun h23 => ?_)
     · have hb23 := h23
       replace h23 := of_decide_eq_true h23
       refine w_seq ?_
       refine w_region ?_
       refine o1 K (os_assign rfl) rfl fun _ K => ?_
       refine wr_nil ?_
       show W _ _ _ _ _ _ _
       refine w_ret ?_
       refine ⟨.inr rfl, _, (res_one (rs_tmp K rfl)), ?_⟩
       first
        | rfl
        | (exfalso; simp_all; done)
        | (exfalso; omega)
        | (exfalso; simp_all; omega)
     have hb23 := h23
     replace h23 := of_decide_eq_false h23
     refine w_skip ?_
     show W _ _ _ _ _ _ _
     refine w_seq ?_
     refine w_region ?_
     refine o1 K (os_move rfl) rfl fun _ K => ?_
     obtain ⟨v26, st26, ev26, ks26, rfl, nr26, q26⟩ := rtokens_ev M.fresh l hB
     refine o1 K (os_call rfl ev26) rfl fun _ K => ?_
     obtain ⟨A26, hA26, M⟩ := M.callAcc q26 nr26
     refine o1 K (os_move rfl) rfl fun _ K => ?_
     refine o1 K (os_extract rfl rfl) rfl fun _ K => ?_
     refine o1 K (os_extract rfl rfl) rfl fun _ K => ?_
     refine o1 K (os_extract rfl rfl) rfl fun _ K => ?_
     refine o1 K (os_assign rfl) rfl fun _ K => ?_
     refine o1 K (os_assign rfl) rfl fun _ K => ?_
     refine o1 K (os_assign rfl) rfl fun _ K => ?_
     refine wr_nil ?_
     show W _ _ _ _ _ _ _
     refine w_seq ?_
     refine w_seq ?_
     refine w_region ?_
     refine o1 K (os_move rfl) rfl fun _ K => ?_
     refine o1 K (os_neI rfl rfl) rfl fun _ K => ?_
     refine wr_nil ?_
     show W _ _ _ _ _ _ _
     refine w_cond (K.opd rfl) (fun h31 => ?_) (fun h31 => ?_)
     · have hb31 := h31
       replace h31 : ¬ ((tokens (bytesOf l)).2.2 = 0) := by simpa using h31
       refine w_seq ?_
       refine w_region ?_
       refine o1 K (os_assign rfl) rfl fun _ K => ?_
       refine wr_nil ?_
       show W _ _ _ _ _ _ _
       refine w_ret ?_
       refine ⟨.inr rfl, _, (res_one (rs_tmp K rfl)), ?_⟩
       first
        | rfl
        | (exfalso; simp_all; done)
        | (exfalso; omega)
        | (exfalso; simp_all; omega)
     have hb31 := h31
     replace h31 : ((tokens (bytesOf l)).2.2 = 0) := by simpa using h31
     refine w_skip ?_
     show W _ _ _ _ _ _ _
     refine w_seq ?_
     refine w_region ?_
     refine wr_bs K M sl_S_string ze_string rfl rfl rfl rfl rfl fun c32 _ _ K M => ?_
     replace M : Mem st.h.get st.n [] _ ((c32, 0, [.str [32], .str [9, 10], .str [35, 32, 120, 32, 60, 32, 51, 32, 206, 177, 10], .str [13, 35, 32, 10]]) :: (A26 ++ [])) := M
     refine o1 K (os_move rfl) rfl fun _ K => ?_
     refine o1 K (os_indexAddr el_S_string rfl rfl (by decide)) rfl fun _ K => ?_
     refine o1 K (os_load rfl (M.load (k := 0) rfl (part_one tk_string rfl))) rfl fun _ K => ?_
     refine o1 K (os_assign rfl) rfl fun _ K => ?_
     refine wr_nil ?_
     show W _ _ _ _ _ _ _
     refine w_seq ?_
     refine w_region ?_
     refine o1 K (os_move rfl) rfl fun _ K => ?_
     refine o1 K (os_move rfl) rfl fun _ K => ?_
     refine o1 K (os_addS rfl rfl (by first | omega | (simp only [List.length_append, List.length_cons, List.length_nil]; omega))) rfl fun _ K => ?_
     refine o1 K (os_addS (b := [10]) rfl rfl (by first | omega | (simp only [List.length_append, List.length_cons, List.length_nil]; omega))) rfl fun _ K => ?_
     refine o1 K (os_move rfl) rfl fun _ K => ?_
     refine o1 K (os_addS rfl rfl (by first | omega | (simp only [List.length_append, List.length_cons, List.length_nil]; omega))) rfl fun _ K => ?_
     obtain ⟨ts, hl1, hat, te, hm1, hm2, hm3⟩ := tokens_gapL (gl := [9, 10]) (l := l) gap1 (by simp; omega) h31
     obtain ⟨v43, st43, ev43, ks43, rfl, nr43, q43⟩ := tokens_ev M.fresh ((([9, 10] ++ l) ++ [10]) ++ [9, 10]) (by omega)
     refine o1 K (os_call rfl ev43) rfl fun _ K => ?_
     obtain ⟨A43, hA43, M⟩ := M.callAcc q43 nr43
     replace M := Mem.cast (M' := ((c32, 0, [.str [32], .str [9, 10], .str [35, 32, 120, 32, 60, 32, 51, 32, 206, 177, 10], .str [13, 35, 32, 10]]) :: (A26 ++ (A43 ++ [])))) M (by simp only [List.append_assoc, List.cons_append, List.nil_append, List.append_nil])
     refine o1 K (os_move rfl) rfl fun _ K => ?_
     refine o1 K (os_extract rfl rfl) rfl fun _ K => ?_
     refine o1 K (os_extract rfl rfl) rfl fun _ K => ?_
     refine o1 K (os_extract rfl rfl) rfl fun _ K => ?_
     refine o1 K (os_assign rfl) rfl fun _ K => ?_
     refine o1 K (os_assign rfl) rfl fun _ K => ?_
     refine o1 K (os_assign rfl) rfl fun _ K => ?_
     refine wr_nil ?_
     show W _ _ _ _ _ _ _
     refine w_seq ?_
     refine w_seq ?_
     refine w_region ?_
     refine o1 K (os_move rfl) rfl fun _ K => ?_
     refine o1 K (os_neI rfl rfl) rfl fun _ K => ?_
     refine oB K (os_move rfl) rfl fun b49 _ e49 K => ?_
     cases b49
     · replace e49 : ((tokens (bytesOf ((([9, 10] ++ l) ++ [10]) ++ [9, 10]))).2.2 = 0) := by simpa using e49
       refine og K rfl rfl (os_move rfl) rfl fun _ K => ?_
       refine og K rfl rfl (os_lenL un_S_api_Token rfl rfl hA43.len) rfl fun _ K => ?_
       refine og K rfl rfl (os_move rfl) rfl fun _ K => ?_
       refine og K rfl rfl (os_lenL un_S_api_Token rfl rfl hA26.len) rfl fun _ K => ?_
       refine og K rfl rfl (os_neI rfl rfl) rfl fun _ K => ?_
       refine o1 K (os_pick rfl rfl rfl) rfl fun _ K => ?_
       refine oB K (os_move rfl) rfl fun b56 _ e56 K => ?_
       cases b56
       · replace e56 : (((((tokens (bytesOf ((([9, 10] ++ l) ++ [10]) ++ [9, 10]))).1.map TokR.cells).length : Nat) : Int) = ((((tokens (bytesOf l)).1.map TokR.cells).length : Nat) : Int)) := by simpa using e56
         refine og K rfl rfl (os_move rfl) rfl fun _ K => ?_
         refine og K rfl rfl (os_move rfl) rfl fun _ K => ?_
         refine og K rfl rfl (os_lenS un_string rfl rfl) rfl fun _ K => ?_
         refine og K rfl rfl (os_move rfl) rfl fun _ K => ?_
         refine og K rfl rfl (os_lenS un_string rfl rfl) rfl fun _ K => ?_
         refine og K rfl rfl (os_mulW (c := 2 * ((([9, 10]).length : Nat) : Int)) rfl rfl (IntWalk.i64_in _ (by omega))) rfl fun _ K => ?_
         refine og K rfl rfl (os_add rfl rfl (by omega) (by omega)) rfl fun _ K => ?_
         refine og K rfl rfl (os_add rfl rfl (by omega) (by omega)) rfl fun _ K => ?_
         refine og K rfl rfl (os_neI rfl rfl) rfl fun _ K => ?_
         refine o1 K (os_pick rfl rfl rfl) rfl fun _ K => ?_
         refine wr_nil ?_
         show W _ _ _ _ _ _ _
         refine w_cond (K.opd rfl) (fun h66 => ?_) (fun h66 => ?_)
         · have hb66 := h66
           replace h66 : ¬ ((((tokens (bytesOf ((([9, 10] ++ l) ++ [10]) ++ [9, 10]))).2.1 : Nat) : Int) = (((((l).length : Nat) : Int) + (2 * ((([9, 10]).length : Nat) : Int))) + 1)) := by simpa using h66
           refine w_seq ?_
           refine w_region ?_
           refine o1 K (os_assign rfl) rfl fun _ K => ?_
           refine wr_nil ?_
           show W _ _ _ _ _ _ _
           refine w_ret ?_
           refine ⟨.inr rfl, _, (res_one (rs_tmp K rfl)), ?_⟩
           first
            | rfl
            | (exfalso; simp_all; done)
            | (exfalso; omega)
            | (exfalso; simp_all; omega)
         have hb66 := h66
         replace h66 : ((((tokens (bytesOf ((([9, 10] ++ l) ++ [10]) ++ [9, 10]))).2.1 : Nat) : Int) = (((((l).length : Nat) : Int) + (2 * ((([9, 10]).length : Nat) : Int))) + 1)) := by simpa using h66
         refine w_skip ?_
         show W _ _ _ _ _ _ _
         refine w_seq ?_
         refine w_seq ?_
         refine w_region ?_
         refine o1 K (os_assign rfl) rfl fun _ K => ?_
         refine wr_nil ?_
         show W _ _ _ _ _ _ _
         refine w_block ?_
         refine w_loop (fun mm1 T st9 => ∃ (i : Nat), mm1 = (tokens (bytesOf l)).1.length - i ∧ KnT [(5, ks26), (8, .str [9, 10]), (9, ks43), (12, .int .i64 (((i : Nat) : Int)))] T ∧ Mem st.h.get st.n [] st9 ((c32, 0, [.str [32], .str [9, 10], .str [35, 32, 120, 32, 60, 32, 51, 32, 206, 177, 10], .str [13, 35, 32, 10]]) :: (A26 ++ (A43 ++ []))) ∧ i ≤ (tokens (bytesOf l)).1.length) (fun mm1 T st9 hI => ?_) _ _ _ ⟨0, rfl, (.cons (K _ _ rfl) (.cons (K _ _ rfl) (.cons (K _ _ rfl) (.cons (K _ _ rfl) .nil)))), M.less (.refl _), (Nat.zero_le _)⟩
         obtain ⟨i, rfl, K, M, hi⟩ := hI
         refine w_seq ?_
         refine w_seq ?_
         refine w_region ?_
         refine o1 K (os_move rfl) rfl fun _ K => ?_
         refine o1 K (os_add rfl rfl (by omega) (by omega)) rfl fun _ K => ?_
         refine o1 K (os_move rfl) rfl fun _ K => ?_
         refine o1 K (os_lenL un_S_api_Token rfl rfl hA26.len) rfl fun _ K => ?_
         refine o1 K (os_lss rfl rfl) rfl fun _ K => ?_
         refine wr_nil ?_
         show W _ _ _ _ _ _ _
         refine w_cond (K.opd rfl) (fun h71 => ?_) (fun h71 => ?_)
         · have hb71 := h71
           replace h71 := of_decide_eq_true h71
           refine w_skip ?_
           show W _ _ _ _ _ _ _
           refine w_seq ?_
           refine w_block ?_
           refine w_seq ?_
           refine w_drawI (l := [(0, 0), (1, 0), (2, 0), (3, 0), (4, 0), (5, 0), (6, 0), (7, 0), (8, 0), (9, 0), (10, 0), (11, 0), (12, 0), (13, 0), (14, 0), (15, 0), (16, 0), (17, 0), (18, 0), (19, 0), (20, 0), (21, 0), (22, 0), (23, 0), (24, 0), (25, 0), (26, 0), (27, 0), (28, 0), (29, 0), (30, 0), (31, 0), (32, 0), (33, 0), (34, 0), (35, 0), (36, 0), (37, 0), (38, 0), (39, 0), (40, 0), (41, 0), (42, 0), (43, 0), (44, 0), (45, 0), (46, 0), (47, 0), (48, 0), (49, 0), (50, 0), (51, 0), (52, 0)]) (by kernel_rfl) ?_
           refine d1 rfl K (os_move rfl) rfl rfl fun _ K => ?_
           refine d1 rfl K (os_move rfl) rfl rfl fun _ K => ?_
           have hat76 := hat
           obtain ⟨t76, ht76⟩ : ∃ t, ts[i]? = some t := ⟨_, List.getElem?_eq_getElem (lt_last (i := i) hl1 (by omega))⟩
           replace hat76 := hat76 _ (List.mem_of_getElem? ht76)
           obtain ⟨x76, m76, f76, q76, _, la76, lo76, lp76⟩ := (Mem.accR (L := ((c32, 0, [.str [32], .str [9, 10], .str [35, 32, 120, 32, 60, 32, 51, 32, 206, 177, 10], .str [13, 35, 32, 10]]) :: (A26 ++ []))) (A := A43) (B := []) (Mem.cast (M := ((c32, 0, [.str [32], .str [9, 10], .str [35, 32, 120, 32, 60, 32, 51, 32, 206, 177, 10], .str [13, 35, 32, 10]]) :: (A26 ++ (A43 ++ [])))) (M' := ((c32, 0, [.str [32], .str [9, 10], .str [35, 32, 120, 32, 60, 32, 51, 32, 206, 177, 10], .str [13, 35, 32, 10]]) :: (A26 ++ [])) ++ (A43 ++ [])) M (by simp only [List.append_assoc, List.cons_append, List.nil_append, List.append_nil])) hA43).load (i := i) (cs := [.int .i64 t76.kind, .str (textOf t76.text), .int .i64 (t76.num : Int), .int .i64 ((t76.at' + 2 : Nat) : Int)]) (by rw [List.getElem?_map, hm1, List.getElem?_append_left (by rw [List.length_map]; exact lt_last (i := i) hl1 (by omega)), List.getElem?_map, ht76]; rfl)
           refine d1 rfl K (os_indexAddr (j := i) el_S_api_Token (congrArg some q76) rfl (by rw [List.length_map, hm1, List.length_append, List.length_map]; have := lt_last (i := i) hl1 (by omega); simp; omega)) rfl rfl fun _ K => ?_
           refine d1 rfl K (os_fieldAddr fo_api_Token_0 rfl) rfl rfl fun _ K => ?_
           refine d1 rfl K (os_load rfl (lo76 _ 0 _ tk_int rfl)) rfl rfl fun _ K => ?_
           refine d1 rfl K (os_move rfl) rfl rfl fun _ K => ?_
           refine d1 rfl K (os_move rfl) rfl rfl fun _ K => ?_
           obtain ⟨x81, m81, f81, q81, _, la81, lo81, lp81⟩ := (Mem.accR (L := [(c32, 0, [.str [32], .str [9, 10], .str [35, 32, 120, 32, 60, 32, 51, 32, 206, 177, 10], .str [13, 35, 32, 10]])]) (A := A26) (B := (A43 ++ [])) M hA26).load (i := i) (cs := _) (by rw [List.getElem?_map, hl1, List.getElem?_append_left (lt_last (i := i) hl1 (by omega)), ht76]; rfl)
           refine d1 rfl K (os_indexAddr (j := i) el_S_api_Token (congrArg some q81) rfl (by rw [List.length_map]; omega)) rfl rfl fun _ K => ?_
           refine d1 rfl K (os_fieldAddr fo_api_Token_0 rfl) rfl rfl fun _ K => ?_
           refine d1 rfl K (os_load rfl (lo81 _ 0 _ tk_int rfl)) rfl rfl fun _ K => ?_
           refine d1 rfl K (os_neI rfl rfl) rfl rfl fun _ K => ?_
           refine dB rfl K (os_move rfl) rfl rfl fun b85 _ e85 K => ?_
           cases b85
           · replace e85 : (t76.kind = t76.kind) := by simpa using e85
             refine dg rfl K rfl rfl (os_move rfl) rfl rfl fun _ K => ?_
             refine dg rfl K rfl rfl (os_move rfl) rfl rfl fun _ K => ?_
             obtain ⟨x88, m88, f88, q88, _, la88, lo88, lp88⟩ := (Mem.accR (L := ((c32, 0, [.str [32], .str [9, 10], .str [35, 32, 120, 32, 60, 32, 51, 32, 206, 177, 10], .str [13, 35, 32, 10]]) :: (A26 ++ []))) (A := A43) (B := []) (Mem.cast (M := ((c32, 0, [.str [32], .str [9, 10], .str [35, 32, 120, 32, 60, 32, 51, 32, 206, 177, 10], .str [13, 35, 32, 10]]) :: (A26 ++ (A43 ++ [])))) (M' := ((c32, 0, [.str [32], .str [9, 10], .str [35, 32, 120, 32, 60, 32, 51, 32, 206, 177, 10], .str [13, 35, 32, 10]]) :: (A26 ++ [])) ++ (A43 ++ [])) M (by simp only [List.append_assoc, List.cons_append, List.nil_append, List.append_nil])) hA43).load (i := i) (cs := [.int .i64 t76.kind, .str (textOf t76.text), .int .i64 (t76.num : Int), .int .i64 ((t76.at' + 2 : Nat) : Int)]) (by rw [List.getElem?_map, hm1, List.getElem?_append_left (by rw [List.length_map]; exact lt_last (i := i) hl1 (by omega)), List.getElem?_map, ht76]; rfl)
             refine dg rfl K rfl rfl (os_indexAddr (j := i) el_S_api_Token (congrArg some q88) rfl (by rw [List.length_map, hm1, List.length_append, List.length_map]; have := lt_last (i := i) hl1 (by omega); simp; omega)) rfl rfl fun _ K => ?_
             refine dg rfl K rfl rfl (os_fieldAddr fo_api_Token_1 rfl) rfl rfl fun _ K => ?_
             refine dg rfl K rfl rfl (os_load rfl (lo88 _ 1 _ tk_string rfl)) rfl rfl fun _ K => ?_
             refine dg rfl K rfl rfl (os_move rfl) rfl rfl fun _ K => ?_
             refine dg rfl K rfl rfl (os_move rfl) rfl rfl fun _ K => ?_
             obtain ⟨x93, m93, f93, q93, _, la93, lo93, lp93⟩ := (Mem.accR (L := [(c32, 0, [.str [32], .str [9, 10], .str [35, 32, 120, 32, 60, 32, 51, 32, 206, 177, 10], .str [13, 35, 32, 10]])]) (A := A26) (B := (A43 ++ [])) M hA26).load (i := i) (cs := _) (by rw [List.getElem?_map, hl1, List.getElem?_append_left (lt_last (i := i) hl1 (by omega)), ht76]; rfl)
             refine dg rfl K rfl rfl (os_indexAddr (j := i) el_S_api_Token (congrArg some q93) rfl (by rw [List.length_map]; omega)) rfl rfl fun _ K => ?_
             refine dg rfl K rfl rfl (os_fieldAddr fo_api_Token_1 rfl) rfl rfl fun _ K => ?_
             refine dg rfl K rfl rfl (os_load rfl (lo93 _ 1 _ tk_string rfl)) rfl rfl fun _ K => ?_
             refine dg rfl K rfl rfl (os_neS rfl rfl) rfl rfl fun _ K => ?_
             refine d1 rfl K (os_pick rfl rfl rfl) rfl rfl fun _ K => ?_
             refine dB rfl K (os_move rfl) rfl rfl fun b98 _ e98 K => ?_
             cases b98
             · replace e98 : ((textOf t76.text) = (textOf t76.text)) := by simpa using e98
               refine dg rfl K rfl rfl (os_move rfl) rfl rfl fun _ K => ?_
               refine dg rfl K rfl rfl (os_move rfl) rfl rfl fun _ K => ?_
               obtain ⟨x101, m101, f101, q101, _, la101, lo101, lp101⟩ := (Mem.accR (L := ((c32, 0, [.str [32], .str [9, 10], .str [35, 32, 120, 32, 60, 32, 51, 32, 206, 177, 10], .str [13, 35, 32, 10]]) :: (A26 ++ []))) (A := A43) (B := []) (Mem.cast (M := ((c32, 0, [.str [32], .str [9, 10], .str [35, 32, 120, 32, 60, 32, 51, 32, 206, 177, 10], .str [13, 35, 32, 10]]) :: (A26 ++ (A43 ++ [])))) (M' := ((c32, 0, [.str [32], .str [9, 10], .str [35, 32, 120, 32, 60, 32, 51, 32, 206, 177, 10], .str [13, 35, 32, 10]]) :: (A26 ++ [])) ++ (A43 ++ [])) M (by simp only [List.append_assoc, List.cons_append, List.nil_append, List.append_nil])) hA43).load (i := i) (cs := [.int .i64 t76.kind, .str (textOf t76.text), .int .i64 (t76.num : Int), .int .i64 ((t76.at' + 2 : Nat) : Int)]) (by rw [List.getElem?_map, hm1, List.getElem?_append_left (by rw [List.length_map]; exact lt_last (i := i) hl1 (by omega)), List.getElem?_map, ht76]; rfl)
               refine dg rfl K rfl rfl (os_indexAddr (j := i) el_S_api_Token (congrArg some q101) rfl (by rw [List.length_map, hm1, List.length_append, List.length_map]; have := lt_last (i := i) hl1 (by omega); simp; omega)) rfl rfl fun _ K => ?_
               refine dg rfl K rfl rfl (os_fieldAddr fo_api_Token_2 rfl) rfl rfl fun _ K => ?_
               refine dg rfl K rfl rfl (os_load rfl (lo101 _ 2 _ tk_int rfl)) rfl rfl fun _ K => ?_
               refine dg rfl K rfl rfl (os_move rfl) rfl rfl fun _ K => ?_
               refine dg rfl K rfl rfl (os_move rfl) rfl rfl fun _ K => ?_
               obtain ⟨x106, m106, f106, q106, _, la106, lo106, lp106⟩ := (Mem.accR (L := [(c32, 0, [.str [32], .str [9, 10], .str [35, 32, 120, 32, 60, 32, 51, 32, 206, 177, 10], .str [13, 35, 32, 10]])]) (A := A26) (B := (A43 ++ [])) M hA26).load (i := i) (cs := _) (by rw [List.getElem?_map, hl1, List.getElem?_append_left (lt_last (i := i) hl1 (by omega)), ht76]; rfl)
               refine dg rfl K rfl rfl (os_indexAddr (j := i) el_S_api_Token (congrArg some q106) rfl (by rw [List.length_map]; omega)) rfl rfl fun _ K => ?_
               refine dg rfl K rfl rfl (os_fieldAddr fo_api_Token_2 rfl) rfl rfl fun _ K => ?_
               refine dg rfl K rfl rfl (os_load rfl (lo106 _ 2 _ tk_int rfl)) rfl rfl fun _ K => ?_
               refine dg rfl K rfl rfl (os_neI rfl rfl) rfl rfl fun _ K => ?_
               refine d1 rfl K (os_pick rfl rfl rfl) rfl rfl fun _ K => ?_
               refine dB rfl K (os_move rfl) rfl rfl fun b111 _ e111 K => ?_
               cases b111
               · replace e111 : (((t76.num : Nat) : Int) = ((t76.num : Nat) : Int)) := by simpa using e111
                 refine dg rfl K rfl rfl (os_move rfl) rfl rfl fun _ K => ?_
                 refine dg rfl K rfl rfl (os_move rfl) rfl rfl fun _ K => ?_
                 obtain ⟨x114, m114, f114, q114, _, la114, lo114, lp114⟩ := (Mem.accR (L := ((c32, 0, [.str [32], .str [9, 10], .str [35, 32, 120, 32, 60, 32, 51, 32, 206, 177, 10], .str [13, 35, 32, 10]]) :: (A26 ++ []))) (A := A43) (B := []) (Mem.cast (M := ((c32, 0, [.str [32], .str [9, 10], .str [35, 32, 120, 32, 60, 32, 51, 32, 206, 177, 10], .str [13, 35, 32, 10]]) :: (A26 ++ (A43 ++ [])))) (M' := ((c32, 0, [.str [32], .str [9, 10], .str [35, 32, 120, 32, 60, 32, 51, 32, 206, 177, 10], .str [13, 35, 32, 10]]) :: (A26 ++ [])) ++ (A43 ++ [])) M (by simp only [List.append_assoc, List.cons_append, List.nil_append, List.append_nil])) hA43).load (i := i) (cs := [.int .i64 t76.kind, .str (textOf t76.text), .int .i64 (t76.num : Int), .int .i64 ((t76.at' + 2 : Nat) : Int)]) (by rw [List.getElem?_map, hm1, List.getElem?_append_left (by rw [List.length_map]; exact lt_last (i := i) hl1 (by omega)), List.getElem?_map, ht76]; rfl)
                 refine dg rfl K rfl rfl (os_indexAddr (j := i) el_S_api_Token (congrArg some q114) rfl (by rw [List.length_map, hm1, List.length_append, List.length_map]; have := lt_last (i := i) hl1 (by omega); simp; omega)) rfl rfl fun _ K => ?_
                 refine dg rfl K rfl rfl (os_fieldAddr fo_api_Token_3 rfl) rfl rfl fun _ K => ?_
                 refine dg rfl K rfl rfl (os_load rfl (lo114 _ 3 _ tk_int rfl)) rfl rfl fun _ K => ?_
                 refine dg rfl K rfl rfl (os_move rfl) rfl rfl fun _ K => ?_
                 refine dg rfl K rfl rfl (os_move rfl) rfl rfl fun _ K => ?_
                 obtain ⟨x119, m119, f119, q119, _, la119, lo119, lp119⟩ := (Mem.accR (L := [(c32, 0, [.str [32], .str [9, 10], .str [35, 32, 120, 32, 60, 32, 51, 32, 206, 177, 10], .str [13, 35, 32, 10]])]) (A := A26) (B := (A43 ++ [])) M hA26).load (i := i) (cs := _) (by rw [List.getElem?_map, hl1, List.getElem?_append_left (lt_last (i := i) hl1 (by omega)), ht76]; rfl)
                 refine dg rfl K rfl rfl (os_indexAddr (j := i) el_S_api_Token (congrArg some q119) rfl (by rw [List.length_map]; omega)) rfl rfl fun _ K => ?_
                 refine dg rfl K rfl rfl (os_fieldAddr fo_api_Token_3 rfl) rfl rfl fun _ K => ?_
                 refine dg rfl K rfl rfl (os_load rfl (lo119 _ 3 _ tk_int rfl)) rfl rfl fun _ K => ?_
                 refine dg rfl K rfl rfl (os_move rfl) rfl rfl fun _ K => ?_
                 refine dg rfl K rfl rfl (os_lenS un_string rfl rfl) rfl rfl fun _ K => ?_
                 refine dg rfl K rfl rfl (os_add rfl rfl (by omega) (by omega)) rfl rfl fun _ K => ?_
                 refine dg rfl K rfl rfl (os_neI rfl rfl) rfl rfl fun _ K => ?_
                 refine d1 rfl K (os_pick rfl rfl rfl) rfl rfl fun _ K => ?_
                 refine wd_nil ?_
                 show W _ _ _ _ _ _ _
                 refine w_cond (K.opd rfl) (fun h126 => ?_) (fun h126 => ?_)
                 · have hb126 := h126
                   replace h126 : ¬ ((((t76.at' + 2) : Nat) : Int) = (((t76.at' : Nat) : Int) + ((([9, 10]).length : Nat) : Int))) := by simpa using h126
                   refine w_seq ?_
                   refine w_region ?_
                   refine o1 K (os_assign rfl) rfl fun _ K => ?_
                   refine wr_nil ?_
                   show W _ _ _ _ _ _ _
                   refine w_ret ?_
                   refine ⟨.inr rfl, _, (res_one (rs_tmp K rfl)), ?_⟩
                   first
                    | rfl
                    | (exfalso; simp_all; done)
                    | (exfalso; omega)
                    | (exfalso; simp_all; omega)
                 have hb126 := h126
                 replace h126 : ((((t76.at' + 2) : Nat) : Int) = (((t76.at' : Nat) : Int) + ((([9, 10]).length : Nat) : Int))) := by simpa using h126
                 refine w_skip ?_
                 show W _ _ _ _ _ _ _
                 refine w_region ?_
                 refine o1 K (os_move rfl) rfl fun _ K => ?_
                 refine o1 K (os_add rfl rfl (by omega) (by omega)) rfl fun _ K => ?_
                 refine o1 K (os_assign rfl) rfl fun _ K => ?_
                 refine wr_nil ?_
                 exact ⟨_, (by omega), i + 1, rfl, (.cons (K _ _ rfl) (.cons (K _ _ rfl) (.cons (K _ _ rfl) (.cons (K _ _ rfl) .nil)))), M.less (.refl _), (by omega)⟩
               replace e111 : ¬ (((t76.num : Nat) : Int) = ((t76.num : Nat) : Int)) := by simpa using e111
               refine dgn rfl K rfl rfl rfl rfl fun _ _ K => ?_
               refine dgn rfl K rfl rfl rfl rfl fun _ _ K => ?_
               refine dgn rfl K rfl rfl rfl rfl fun _ _ K => ?_
               refine dgn rfl K rfl rfl rfl rfl fun _ _ K => ?_
               refine dgn rfl K rfl rfl rfl rfl fun _ _ K => ?_
               refine dgn rfl K rfl rfl rfl rfl fun _ _ K => ?_
               refine dgn rfl K rfl rfl rfl rfl fun _ _ K => ?_
               refine dgn rfl K rfl rfl rfl rfl fun _ _ K => ?_
               refine dgn rfl K rfl rfl rfl rfl fun _ _ K => ?_
               refine dgn rfl K rfl rfl rfl rfl fun _ _ K => ?_
               refine dgn rfl K rfl rfl rfl rfl fun _ _ K => ?_
               refine dgn rfl K rfl rfl rfl rfl fun _ _ K => ?_
               refine dgn rfl K rfl rfl rfl rfl fun _ _ K => ?_
               refine dgn rfl K rfl rfl rfl rfl fun _ _ K => ?_
               refine d1 rfl K (os_pick rfl rfl rfl) rfl rfl fun _ K => ?_
               refine wd_nil ?_
               show W _ _ _ _ _ _ _
               refine w_cond (t := true) (K.opd rfl) (fun _ => ?_) (fun h => by cases h)
               refine w_seq ?_
               refine w_region ?_
               refine o1 K (os_assign rfl) rfl fun _ K => ?_
               refine wr_nil ?_
               show W _ _ _ _ _ _ _
               refine w_ret ?_
               refine ⟨.inr rfl, _, (res_one (rs_tmp K rfl)), ?_⟩
               first
                | rfl
                | (exfalso; simp_all; done)
                | (exfalso; omega)
                | (exfalso; simp_all; omega)
             replace e98 : ¬ ((textOf t76.text) = (textOf t76.text)) := by simpa using e98
             refine dgn rfl K rfl rfl rfl rfl fun _ _ K => ?_
             refine dgn rfl K rfl rfl rfl rfl fun _ _ K => ?_
             refine dgn rfl K rfl rfl rfl rfl fun _ _ K => ?_
             refine dgn rfl K rfl rfl rfl rfl fun _ _ K => ?_
             refine dgn rfl K rfl rfl rfl rfl fun _ _ K => ?_
             refine dgn rfl K rfl rfl rfl rfl fun _ _ K => ?_
             refine dgn rfl K rfl rfl rfl rfl fun _ _ K => ?_
             refine dgn rfl K rfl rfl rfl rfl fun _ _ K => ?_
             refine dgn rfl K rfl rfl rfl rfl fun _ _ K => ?_
             refine dgn rfl K rfl rfl rfl rfl fun _ _ K => ?_
             refine dgn rfl K rfl rfl rfl rfl fun _ _ K => ?_
             refine d1 rfl K (os_pick rfl rfl rfl) rfl rfl fun _ K => ?_
             refine d1 rfl K (os_move rfl) rfl rfl fun _ K => ?_
             refine dgn rfl K rfl rfl rfl rfl fun _ _ K => ?_
             refine dgn rfl K rfl rfl rfl rfl fun _ _ K => ?_
             refine dgn rfl K rfl rfl rfl rfl fun _ _ K => ?_
             refine dgn rfl K rfl rfl rfl rfl fun _ _ K => ?_
             refine dgn rfl K rfl rfl rfl rfl fun _ _ K => ?_
             refine dgn rfl K rfl rfl rfl rfl fun _ _ K => ?_
             refine dgn rfl K rfl rfl rfl rfl fun _ _ K => ?_
             refine dgn rfl K rfl rfl rfl rfl fun _ _ K => ?_
             refine dgn rfl K rfl rfl rfl rfl fun _ _ K => ?_
             refine dgn rfl K rfl rfl rfl rfl fun _ _ K => ?_
             refine dgn rfl K rfl rfl rfl rfl fun _ _ K => ?_
             refine dgn rfl K rfl rfl rfl rfl fun _ _ K => ?_
             refine dgn rfl K rfl rfl rfl rfl fun _ _ K => ?_
             refine dgn rfl K rfl rfl rfl rfl fun _ _ K => ?_
             refine d1 rfl K (os_pick rfl rfl rfl) rfl rfl fun _ K => ?_
             refine wd_nil ?_
             show W _ _ _ _ _ _ _
             refine w_cond (t := true) (K.opd rfl) (fun _ => ?_) (fun h => by cases h)
             refine w_seq ?_
             refine w_region ?_
             refine o1 K (os_assign rfl) rfl fun _ K => ?_
             refine wr_nil ?_
             show W _ _ _ _ _ _ _
             refine w_ret ?_
             refine ⟨.inr rfl, _, (res_one (rs_tmp K rfl)), ?_⟩
             first
              | rfl
              | (exfalso; simp_all; done)
              | (exfalso; omega)
              | (exfalso; simp_all; omega)
           replace e85 : ¬ (t76.kind = t76.kind) := by simpa using e85
           refine dgn rfl K rfl rfl rfl rfl fun _ _ K => ?_
           refine dgn rfl K rfl rfl rfl rfl fun _ _ K => ?_
           refine dgn rfl K rfl rfl rfl rfl fun _ _ K => ?_
           refine dgn rfl K rfl rfl rfl rfl fun _ _ K => ?_
           refine dgn rfl K rfl rfl rfl rfl fun _ _ K => ?_
           refine dgn rfl K rfl rfl rfl rfl fun _ _ K => ?_
           refine dgn rfl K rfl rfl rfl rfl fun _ _ K => ?_
           refine dgn rfl K rfl rfl rfl rfl fun _ _ K => ?_
           refine dgn rfl K rfl rfl rfl rfl fun _ _ K => ?_
           refine dgn rfl K rfl rfl rfl rfl fun _ _ K => ?_
           refine dgn rfl K rfl rfl rfl rfl fun _ _ K => ?_
           refine d1 rfl K (os_pick rfl rfl rfl) rfl rfl fun _ K => ?_
           refine d1 rfl K (os_move rfl) rfl rfl fun _ K => ?_
           refine dgn rfl K rfl rfl rfl rfl fun _ _ K => ?_
           refine dgn rfl K rfl rfl rfl rfl fun _ _ K => ?_
           refine dgn rfl K rfl rfl rfl rfl fun _ _ K => ?_
           refine dgn rfl K rfl rfl rfl rfl fun _ _ K => ?_
           refine dgn rfl K rfl rfl rfl rfl fun _ _ K => ?_
           refine dgn rfl K rfl rfl rfl rfl fun _ _ K => ?_
           refine dgn rfl K rfl rfl rfl rfl fun _ _ K => ?_
           refine dgn rfl K rfl rfl rfl rfl fun _ _ K => ?_
           refine dgn rfl K rfl rfl rfl rfl fun _ _ K => ?_
           refine dgn rfl K rfl rfl rfl rfl fun _ _ K => ?_
           refine dgn rfl K rfl rfl rfl rfl fun _ _ K => ?_
           refine d1 rfl K (os_pick rfl rfl rfl) rfl rfl fun _ K => ?_
           refine d1 rfl K (os_move rfl) rfl rfl fun _ K => ?_
           refine dgn rfl K rfl rfl rfl rfl fun _ _ K => ?_
           refine dgn rfl K rfl rfl rfl rfl fun _ _ K => ?_
           refine dgn rfl K rfl rfl rfl rfl fun _ _ K => ?_
           refine dgn rfl K rfl rfl rfl rfl fun _ _ K => ?_
           refine dgn rfl K rfl rfl rfl rfl fun _ _ K => ?_
           refine dgn rfl K rfl rfl rfl rfl fun _ _ K => ?_
           refine dgn rfl K rfl rfl rfl rfl fun _ _ K => ?_
           refine dgn rfl K rfl rfl rfl rfl fun _ _ K => ?_
           refine dgn rfl K rfl rfl rfl rfl fun _ _ K => ?_
           refine dgn rfl K rfl rfl rfl rfl fun _ _ K => ?_
           refine dgn rfl K rfl rfl rfl rfl fun _ _ K => ?_
           refine dgn rfl K rfl rfl rfl rfl fun _ _ K => ?_
           refine dgn rfl K rfl rfl rfl rfl fun _ _ K => ?_
           refine dgn rfl K rfl rfl rfl rfl fun _ _ K => ?_
           refine d1 rfl K (os_pick rfl rfl rfl) rfl rfl fun _ K => ?_
           refine wd_nil ?_
           show W _ _ _ _ _ _ _
           refine w_cond (t := true) (K.opd rfl) (fun _ => ?_) (fun h => by cases h)
           refine w_seq ?_
           refine w_region ?_
           refine o1 K (os_assign rfl) rfl fun _ K => ?_
           refine wr_nil ?_
           show W _ _ _ _ _ _ _
           refine w_ret ?_
           refine ⟨.inr rfl, _, (res_one (rs_tmp K rfl)), ?_⟩
           first
            | rfl
            | (exfalso; simp_all; done)
            | (exfalso; omega)
            | (exfalso; simp_all; omega)
         have hb71 := h71
         replace h71 := of_decide_eq_false h71
         refine w_exit ?_
         show W _ _ _ _ _ _ _
         refine w_seq ?_
         refine w_region ?_
         have ev127 := known2_evS
         refine o1 K (os_call rfl (ev127 _)) rfl fun _ K => ?_
         refine o1 K (os_assign rfl) rfl fun _ K => ?_
         refine wr_nil ?_
         show W _ _ _ _ _ _ _
         refine w_ret ?_
         refine ⟨.inr rfl, _, (res_one (rs_tmp K rfl)), ?_⟩
         first
          | rfl
          | (exfalso; simp_all; done)
          | (exfalso; omega)
          | (exfalso; simp_all; omega)
       replace e56 : ¬ (((((tokens (bytesOf ((([9, 10] ++ l) ++ [10]) ++ [9, 10]))).1.map TokR.cells).length : Nat) : Int) = ((((tokens (bytesOf l)).1.map TokR.cells).length : Nat) : Int)) := by simpa using e56
       refine gn K rfl rfl rfl rfl fun _ K => ?_
       refine gn K rfl rfl rfl rfl fun _ K => ?_
       refine gn K rfl rfl rfl rfl fun _ K => ?_
       refine gn K rfl rfl rfl rfl fun _ K => ?_
       refine gn K rfl rfl rfl rfl fun _ K => ?_
       refine gn K rfl rfl rfl rfl fun _ K => ?_
       refine gn K rfl rfl rfl rfl fun _ K => ?_
       refine gn K rfl rfl rfl rfl fun _ K => ?_
       refine gn K rfl rfl rfl rfl fun _ K => ?_
       refine o1 K (os_pick rfl rfl rfl) rfl fun _ K => ?_
       refine wr_nil ?_
       show W _ _ _ _ _ _ _
       refine w_cond (t := true) (K.opd rfl) (fun _ => ?_) (fun h => by cases h)
       refine w_seq ?_
       refine w_region ?_
       refine o1 K (os_assign rfl) rfl fun _ K => ?_
       refine wr_nil ?_
       show W _ _ _ _ _ _ _
       refine w_ret ?_
       refine ⟨.inr rfl, _, (res_one (rs_tmp K rfl)), ?_⟩
       first
        | rfl
        | (exfalso; simp_all; done)
        | (exfalso; omega)
        | (exfalso; simp_all; omega)
     replace e49 : ¬ ((tokens (bytesOf ((([9, 10] ++ l) ++ [10]) ++ [9, 10]))).2.2 = 0) := by simpa using e49
     refine gn K rfl rfl rfl rfl fun _ K => ?_
     refine gn K rfl rfl rfl rfl fun _ K => ?_
     refine gn K rfl rfl rfl rfl fun _ K => ?_
     refine gn K rfl rfl rfl rfl fun _ K => ?_
     refine gn K rfl rfl rfl rfl fun _ K => ?_
     refine o1 K (os_pick rfl rfl rfl) rfl fun _ K => ?_
     refine o1 K (os_move rfl) rfl fun _ K => ?_
     refine gn K rfl rfl rfl rfl fun _ K => ?_
     refine gn K rfl rfl rfl rfl fun _ K => ?_
     refine gn K rfl rfl rfl rfl fun _ K => ?_
     refine gn K rfl rfl rfl rfl fun _ K => ?_
     refine gn K rfl rfl rfl rfl fun _ K => ?_
     refine gn K rfl rfl rfl rfl fun _ K => ?_
     refine gn K rfl rfl rfl rfl fun _ K => ?_
     refine gn K rfl rfl rfl rfl fun _ K => ?_
     refine gn K rfl rfl rfl rfl fun _ K => ?_
     refine o1 K (os_pick rfl rfl rfl) rfl fun _ K => ?_
     refine wr_nil ?_
     show W _ _ _ _ _ _ _
     refine w_cond (t := true) (K.opd rfl) (fun _ => ?_) (fun h => by cases h)
     refine w_seq ?_
     refine w_region ?_
     refine o1 K (os_assign rfl) rfl fun _ K => ?_
     refine wr_nil ?_
     show W _ _ _ _ _ _ _
     refine w_ret ?_
     refine ⟨.inr rfl, _, (res_one (rs_tmp K rfl)), ?_⟩
     first
      | rfl
      | (exfalso; simp_all; done)
      | (exfalso; omega)
      | (exfalso; simp_all; omega)
   replace e20 := of_decide_eq_true e20
   refine gn K rfl rfl rfl rfl fun _ K => ?_
   refine gn K rfl rfl rfl rfl fun _ K => ?_
   refine o1 K (os_pick rfl rfl rfl) rfl fun _ K => ?_
   refine wr_nil ?_
   show W _ _ _ _ _ _ _
   refine w_cond (t := true) (K.opd rfl) (fun _ => ?_) (fun h => by cases h)
   refine w_seq ?_
   refine w_region ?_
   refine o1 K (os_assign rfl) rfl fun _ K => ?_
   refine wr_nil ?_
   show W _ _ _ _ _ _ _
   refine w_ret ?_
   refine ⟨.inr rfl, _, (res_one (rs_tmp K rfl)), ?_⟩
   first
    | rfl
    | (exfalso; simp_all; done)
    | (exfalso; omega)
    | (exfalso; simp_all; omega)
 replace e16 := of_decide_eq_true e16
 refine gn K rfl rfl rfl rfl fun _ K => ?_
 refine gn K rfl rfl rfl rfl fun _ K => ?_
 refine o1 K (os_pick rfl rfl rfl) rfl fun _ K => ?_
 refine o1 K (os_move rfl) rfl fun _ K => ?_
 refine gn K rfl rfl rfl rfl fun _ K => ?_
 refine gn K rfl rfl rfl rfl fun _ K => ?_
 refine o1 K (os_pick rfl rfl rfl) rfl fun _ K => ?_
 refine wr_nil ?_
 show W _ _ _ _ _ _ _
 refine w_cond (t := true) (K.opd rfl) (fun _ => ?_) (fun h => by cases h)
 refine w_seq ?_
 refine w_region ?_
 refine o1 K (os_assign rfl) rfl fun _ K => ?_
 refine wr_nil ?_
 show W _ _ _ _ _ _ _
 refine w_ret ?_
 refine ⟨.inr rfl, _, (res_one (rs_tmp K rfl)), ?_⟩
 first
  | rfl
  | (exfalso; simp_all; done)
  | (exfalso; omega)
  | (exfalso; simp_all; omega)

theorem lexSpaces_ev2 {st : St} (hf : Fresh st) (l : List Nat) (hB : Bytes l) (hl : l.length ≤ 140737488351232) : ∃ v st', Ev Tryd.prog envD 6 [.str l, .int .i64 2] st v st' ∧ v = .bool true := by
 have hgl : ([35, 32, 120, 32, 60, 32, 51, 32, 206, 177, 10] : List Nat).length = 11 := rfl
 have htl := tokens_len (bytesOf l)
 have hml : ((tokens (bytesOf l)).1.map TokR.cells).length = (tokens (bytesOf l)).1.length := by simp
 have htm := tokens_len (bytesOf ((([35, 32, 120, 32, 60, 32, 51, 32, 206, 177, 10] ++ l) ++ [10]) ++ [35, 32, 120, 32, 60, 32, 51, 32, 206, 177, 10]))
 have hmm : ((tokens (bytesOf ((([35, 32, 120, 32, 60, 32, 51, 32, 206, 177, 10] ++ l) ++ [10]) ++ [35, 32, 120, 32, 60, 32, 51, 32, 206, 177, 10]))).1.map TokR.cells).length = (tokens (bytesOf ((([35, 32, 120, 32, 60, 32, 51, 32, 206, 177, 10] ++ l) ++ [10]) ++ [35, 32, 120, 32, 60, 32, 51, 32, 206, 177, 10]))).1.length := by simp
 refine ev_fn rfl Tryd.func6 rfl Tryd.ntmps6 rfl (by decide) (by simp) fun T hT => ?_
 have K : KnT [(0, _), (1, _)] T := (.cons (hT 0) (.cons (hT 1) .nil))
 have M := Mem.start hf
 refine w_seq ?_
 refine w_region ?_
 refine o1 K (os_assign rfl) rfl fun _ K => ?_
 refine wr_nil ?_
 show W _ _ _ _ _ _ _
 refine w_seq ?_
 refine w_seq ?_
 refine w_region ?_
 refine o1 K (os_move rfl) rfl fun _ K => ?_
 refine o1 K (os_lenS un_string rfl rfl) rfl fun _ K => ?_
 refine o1 K (os_gtr rfl rfl) rfl fun _ K => ?_
 refine oB K (os_move rfl) rfl fun b16 _ e16 K => ?_
 cases b16
 · replace e16 := of_decide_eq_false e16
   refine og K rfl rfl (os_move rfl) rfl fun _ K => ?_
   refine og K rfl rfl (os_lss rfl rfl) rfl fun _ K => ?_
   refine o1 K (os_pick rfl rfl rfl) rfl fun _ K => ?_
   refine oB K (os_move rfl) rfl fun b20 _ e20 K => ?_
   cases b20
   · replace e20 := of_decide_eq_false e20
     refine og K rfl rfl (os_move rfl) rfl fun _ K => ?_
     refine og K rfl rfl (os_gtr rfl rfl) rfl fun _ K => ?_
     refine o1 K (os_pick rfl rfl rfl) rfl fun _ K => ?_
     refine wr_nil ?_
     show W _ _ _ _ _ _ _
     refine w_cond (K.opd rfl) (fun h23 => ?_) (fun h23 => ?_)
     · have hb23 := h23
       replace h23 := of_decide_eq_true h23
       refine w_seq ?_
       refine w_region ?_
       refine o1 K (os_assign rfl) rfl fun _ K => ?_
       refine wr_nil ?_
       show W _ _ _ _ _ _ _
       refine w_ret ?_
       refine ⟨.inr rfl, _, (res_one (rs_tmp K rfl)), ?_⟩
       first
        | rfl
        | (exfalso; simp_all; done)
        | (exfalso; omega)
        | (exfalso; simp_all; omega)
     have hb23 := h23
     replace h23 := of_decide_eq_false h23
     refine w_skip ?_
     show W _ _ _ _ _ _ _
     refine w_seq ?_
     refine w_region ?_
     refine o1 K (os_move rfl) rfl fun _ K => ?_
     obtain ⟨v26, st26, ev26, ks26, rfl, nr26, q26⟩ := rtokens_ev M.fresh l hB
     refine o1 K (os_call rfl ev26) rfl fun _ K => ?_
     obtain ⟨A26, hA26, M⟩ := M.callAcc q26 nr26
     refine o1 K (os_move rfl) rfl fun _ K => ?_
     refine o1 K (os_extract rfl rfl) rfl fun _ K => ?_
     refine o1 K (os_extract rfl rfl) rfl fun _ K => ?_
     refine o1 K (os_extract rfl rfl) rfl fun _ K => ?_
     refine o1 K (os_assign rfl) rfl fun _ K => ?_
     refine o1 K (os_assign rfl) rfl fun _ K => ?_
     refine o1 K (os_assign rfl) rfl fun _ K => ?_
     refine wr_nil ?_
     show W _ _ _ _ _ _ _
     refine w_seq ?_
     refine w_seq ?_
     refine w_region ?_
     refine o1 K (os_move rfl) rfl fun _ K => ?_
     refine o1 K (os_neI rfl rfl) rfl fun _ K => ?_
     refine wr_nil ?_
     show W _ _ _ _ _ _ _
     refine w_cond (K.opd rfl) (fun h31 => ?_) (fun h31 => ?_)
     · have hb31 := h31
       replace h31 : ¬ ((tokens (bytesOf l)).2.2 = 0) := by simpa using h31
       refine w_seq ?_
       refine w_region ?_
       refine o1 K (os_assign rfl) rfl fun _ K => ?_
       refine wr_nil ?_
       show W _ _ _ _ _ _ _
       refine w_ret ?_
       refine ⟨.inr rfl, _, (res_one (rs_tmp K rfl)), ?_⟩
       first
        | rfl
        | (exfalso; simp_all; done)
        | (exfalso; omega)
        | (exfalso; simp_all; omega)
     have hb31 := h31
     replace h31 : ((tokens (bytesOf l)).2.2 = 0) := by simpa using h31
     refine w_skip ?_
     show W _ _ _ _ _ _ _
     refine w_seq ?_
     refine w_region ?_
     refine wr_bs K M sl_S_string ze_string rfl rfl rfl rfl rfl fun c32 _ _ K M => ?_
     replace M : Mem st.h.get st.n [] _ ((c32, 0, [.str [32], .str [9, 10], .str [35, 32, 120, 32, 60, 32, 51, 32, 206, 177, 10], .str [13, 35, 32, 10]]) :: (A26 ++ [])) := M
     refine o1 K (os_move rfl) rfl fun _ K => ?_
     refine o1 K (os_indexAddr el_S_string rfl rfl (by decide)) rfl fun _ K => ?_
     refine o1 K (os_load rfl (M.load (k := 0) rfl (part_one tk_string rfl))) rfl fun _ K => ?_
     refine o1 K (os_assign rfl) rfl fun _ K => ?_
     refine wr_nil ?_
     show W _ _ _ _ _ _ _
     refine w_seq ?_
     refine w_region ?_
     refine o1 K (os_move rfl) rfl fun _ K => ?_
     refine o1 K (os_move rfl) rfl fun _ K => ?_
     refine o1 K (os_addS rfl rfl (by first | omega | (simp only [List.length_append, List.length_cons, List.length_nil]; omega))) rfl fun _ K => ?_
     refine o1 K (os_addS (b := [10]) rfl rfl (by first | omega | (simp only [List.length_append, List.length_cons, List.length_nil]; omega))) rfl fun _ K => ?_
     refine o1 K (os_move rfl) rfl fun _ K => ?_
     refine o1 K (os_addS rfl rfl (by first | omega | (simp only [List.length_append, List.length_cons, List.length_nil]; omega))) rfl fun _ K => ?_
     obtain ⟨ts, hl1, hat, te, hm1, hm2, hm3⟩ := tokens_gapL (gl := [35, 32, 120, 32, 60, 32, 51, 32, 206, 177, 10]) (l := l) gap2 (by simp; omega) h31
     obtain ⟨v43, st43, ev43, ks43, rfl, nr43, q43⟩ := tokens_ev M.fresh ((([35, 32, 120, 32, 60, 32, 51, 32, 206, 177, 10] ++ l) ++ [10]) ++ [35, 32, 120, 32, 60, 32, 51, 32, 206, 177, 10]) (by omega)
     refine o1 K (os_call rfl ev43) rfl fun _ K => ?_
     obtain ⟨A43, hA43, M⟩ := M.callAcc q43 nr43
     replace M := Mem.cast (M' := ((c32, 0, [.str [32], .str [9, 10], .str [35, 32, 120, 32, 60, 32, 51, 32, 206, 177, 10], .str [13, 35, 32, 10]]) :: (A26 ++ (A43 ++ [])))) M (by simp only [List.append_assoc, List.cons_append, List.nil_append, List.append_nil])
     refine o1 K (os_move rfl) rfl fun _ K => ?_
     refine o1 K (os_extract rfl rfl) rfl fun _ K => ?_
     refine o1 K (os_extract rfl rfl) rfl fun _ K => ?_
     refine o1 K (os_extract rfl rfl) rfl fun _ K => ?_
     refine o1 K (os_assign rfl) rfl fun _ K => ?_
     refine o1 K (os_assign rfl) rfl fun _ K => ?_
     refine o1 K (os_assign rfl) rfl fun _ K => ?_
     refine wr_nil ?_
     show W _ _ _ _ _ _ _
     refine w_seq ?_
     refine w_seq ?_
     refine w_region ?_
     refine o1 K (os_move rfl) rfl fun _ K => ?_
     refine o1 K (os_neI rfl rfl) rfl fun _ K => ?_
     refine oB K (os_move rfl) rfl fun b49 _ e49 K => ?_
     cases b49
     · replace e49 : ((tokens (bytesOf ((([35, 32, 120, 32, 60, 32, 51, 32, 206, 177, 10] ++ l) ++ [10]) ++ [35, 32, 120, 32, 60, 32, 51, 32, 206, 177, 10]))).2.2 = 0) := by simpa using e49
       refine og K rfl rfl (os_move rfl) rfl fun _ K => ?_
       refine og K rfl rfl (os_lenL un_S_api_Token rfl rfl hA43.len) rfl fun _ K => ?_
       refine og K rfl rfl (os_move rfl) rfl fun _ K => ?_
       refine og K rfl rfl (os_lenL un_S_api_Token rfl rfl hA26.len) rfl fun _ K => ?_
       refine og K rfl rfl (os_neI rfl rfl) rfl fun _ K => ?_
       refine o1 K (os_pick rfl rfl rfl) rfl fun _ K => ?_
       refine oB K (os_move rfl) rfl fun b56 _ e56 K => ?_
       cases b56
       · replace e56 : (((((tokens (bytesOf ((([35, 32, 120, 32, 60, 32, 51, 32, 206, 177, 10] ++ l) ++ [10]) ++ [35, 32, 120, 32, 60, 32, 51, 32, 206, 177, 10]))).1.map TokR.cells).length : Nat) : Int) = ((((tokens (bytesOf l)).1.map TokR.cells).length : Nat) : Int)) := by simpa using e56
         refine og K rfl rfl (os_move rfl) rfl fun _ K => ?_
         refine og K rfl rfl (os_move rfl) rfl fun _ K => ?_
         refine og K rfl rfl (os_lenS un_string rfl rfl) rfl fun _ K => ?_
         refine og K rfl rfl (os_move rfl) rfl fun _ K => ?_
         refine og K rfl rfl (os_lenS un_string rfl rfl) rfl fun _ K => ?_
         refine og K rfl rfl (os_mulW (c := 2 * ((([35, 32, 120, 32, 60, 32, 51, 32, 206, 177, 10]).length : Nat) : Int)) rfl rfl (IntWalk.i64_in _ (by omega))) rfl fun _ K => ?_
         refine og K rfl rfl (os_add rfl rfl (by omega) (by omega)) rfl fun _ K => ?_
         refine og K rfl rfl (os_add rfl rfl (by omega) (by omega)) rfl fun _ K => ?_
         refine og K rfl rfl (os_neI rfl rfl) rfl fun _ K => ?_
         refine o1 K (os_pick rfl rfl rfl) rfl fun _ K => ?_
         refine wr_nil ?_
         show W _ _ _ _ _ _ _
         refine w_cond (K.opd rfl) (fun h66 => ?_) (fun h66 => ?_)
         · have hb66 := h66
           replace h66 : ¬ ((((tokens (bytesOf ((([35, 32, 120, 32, 60, 32, 51, 32, 206, 177, 10] ++ l) ++ [10]) ++ [35, 32, 120, 32, 60, 32, 51, 32, 206, 177, 10]))).2.1 : Nat) : Int) = (((((l).length : Nat) : Int) + (2 * ((([35, 32, 120, 32, 60, 32, 51, 32, 206, 177, 10]).length : Nat) : Int))) + 1)) := by simpa using h66
           refine w_seq ?_
           refine w_region ?_
           refine o1 K (os_assign rfl) rfl fun _ K => ?_
           refine wr_nil ?_
           show W _ _ _ _ _ _ _
           refine w_ret ?_
           refine ⟨.inr rfl, _, (res_one (rs_tmp K rfl)), ?_⟩
           first
            | rfl
            | (exfalso; simp_all; done)
            | (exfalso; omega)
            | (exfalso; simp_all; omega)
         have hb66 := h66
         replace h66 : ((((tokens (bytesOf ((([35, 32, 120, 32, 60, 32, 51, 32, 206, 177, 10] ++ l) ++ [10]) ++ [35, 32, 120, 32, 60, 32, 51, 32, 206, 177, 10]))).2.1 : Nat) : Int) = (((((l).length : Nat) : Int) + (2 * ((([35, 32, 120, 32, 60, 32, 51, 32, 206, 177, 10]).length : Nat) : Int))) + 1)) := by simpa using h66
         refine w_skip ?_
         show W _ _ _ _ _ _ _
         refine w_seq ?_
         refine w_seq ?_
         refine w_region ?_
         refine o1 K (os_assign rfl) rfl fun _ K => ?_
         refine wr_nil ?_
         show W _ _ _ _ _ _ _
         refine w_block ?_
         refine w_loop (fun mm1 T st9 => ∃ (i : Nat), mm1 = (tokens (bytesOf l)).1.length - i ∧ KnT [(5, ks26), (8, .str [35, 32, 120, 32, 60, 32, 51, 32, 206, 177, 10]), (9, ks43), (12, .int .i64 (((i : Nat) : Int)))] T ∧ Mem st.h.get st.n [] st9 ((c32, 0, [.str [32], .str [9, 10], .str [35, 32, 120, 32, 60, 32, 51, 32, 206, 177, 10], .str [13, 35, 32, 10]]) :: (A26 ++ (A43 ++ []))) ∧ i ≤ (tokens (bytesOf l)).1.length) (fun mm1 T st9 hI => ?_) _ _ _ ⟨0, rfl, (.cons (K _ _ rfl) (.cons (K _ _ rfl) (.cons (K _ _ rfl) (.cons (K _ _ rfl) .nil)))), M.less (.refl _), (Nat.zero_le _)⟩
         obtain ⟨i, rfl, K, M, hi⟩ := hI
         refine w_seq ?_
         refine w_seq ?_
         refine w_region ?_
         refine o1 K (os_move rfl) rfl fun _ K => ?_
         refine o1 K (os_add rfl rfl (by omega) (by omega)) rfl fun _ K => ?_
         refine o1 K (os_move rfl) rfl fun _ K => ?_
         refine o1 K (os_lenL un_S_api_Token rfl rfl hA26.len) rfl fun _ K => ?_
         refine o1 K (os_lss rfl rfl) rfl fun _ K => ?_
         refine wr_nil ?_
         show W _ _ _ _ _ _ _
         refine w_cond (K.opd rfl) (fun h71 => ?_) (fun h71 => ?_)
         · have hb71 := h71
           replace h71 := of_decide_eq_true h71
           refine w_skip ?_
           show W _ _ _ _ _ _ _
           refine w_seq ?_
           refine w_block ?_
           refine w_seq ?_
           refine w_drawI (l := [(0, 0), (1, 0), (2, 0), (3, 0), (4, 0), (5, 0), (6, 0), (7, 0), (8, 0), (9, 0), (10, 0), (11, 0), (12, 0), (13, 0), (14, 0), (15, 0), (16, 0), (17, 0), (18, 0), (19, 0), (20, 0), (21, 0), (22, 0), (23, 0), (24, 0), (25, 0), (26, 0), (27, 0), (28, 0), (29, 0), (30, 0), (31, 0), (32, 0), (33, 0), (34, 0), (35, 0), (36, 0), (37, 0), (38, 0), (39, 0), (40, 0), (41, 0), (42, 0), (43, 0), (44, 0), (45, 0), (46, 0), (47, 0), (48, 0), (49, 0), (50, 0), (51, 0), (52, 0)]) (by kernel_rfl) ?_
           refine d1 rfl K (os_move rfl) rfl rfl fun _ K => ?_
           refine d1 rfl K (os_move rfl) rfl rfl fun _ K => ?_
           have hat76 := hat
           obtain ⟨t76, ht76⟩ : ∃ t, ts[i]? = some t := ⟨_, List.getElem?_eq_getElem (lt_last (i := i) hl1 (by omega))⟩
           replace hat76 := hat76 _ (List.mem_of_getElem? ht76)
           obtain ⟨x76, m76, f76, q76, _, la76, lo76, lp76⟩ := (Mem.accR (L := ((c32, 0, [.str [32], .str [9, 10], .str [35, 32, 120, 32, 60, 32, 51, 32, 206, 177, 10], .str [13, 35, 32, 10]]) :: (A26 ++ []))) (A := A43) (B := []) (Mem.cast (M := ((c32, 0, [.str [32], .str [9, 10], .str [35, 32, 120, 32, 60, 32, 51, 32, 206, 177, 10], .str [13, 35, 32, 10]]) :: (A26 ++ (A43 ++ [])))) (M' := ((c32, 0, [.str [32], .str [9, 10], .str [35, 32, 120, 32, 60, 32, 51, 32, 206, 177, 10], .str [13, 35, 32, 10]]) :: (A26 ++ [])) ++ (A43 ++ [])) M (by simp only [List.append_assoc, List.cons_append, List.nil_append, List.append_nil])) hA43).load (i := i) (cs := [.int .i64 t76.kind, .str (textOf t76.text), .int .i64 (t76.num : Int), .int .i64 ((t76.at' + 11 : Nat) : Int)]) (by rw [List.getElem?_map, hm1, List.getElem?_append_left (by rw [List.length_map]; exact lt_last (i := i) hl1 (by omega)), List.getElem?_map, ht76]; rfl)
           refine d1 rfl K (os_indexAddr (j := i) el_S_api_Token (congrArg some q76) rfl (by rw [List.length_map, hm1, List.length_append, List.length_map]; have := lt_last (i := i) hl1 (by omega); simp; omega)) rfl rfl fun _ K => ?_
           refine d1 rfl K (os_fieldAddr fo_api_Token_0 rfl) rfl rfl fun _ K => ?_
           refine d1 rfl K (os_load rfl (lo76 _ 0 _ tk_int rfl)) rfl rfl fun _ K => ?_
           refine d1 rfl K (os_move rfl) rfl rfl fun _ K => ?_
           refine d1 rfl K (os_move rfl) rfl rfl fun _ K => ?_
           obtain ⟨x81, m81, f81, q81, _, la81, lo81, lp81⟩ := (Mem.accR (L := [(c32, 0, [.str [32], .str [9, 10], .str [35, 32, 120, 32, 60, 32, 51, 32, 206, 177, 10], .str [13, 35, 32, 10]])]) (A := A26) (B := (A43 ++ [])) M hA26).load (i := i) (cs := _) (by rw [List.getElem?_map, hl1, List.getElem?_append_left (lt_last (i := i) hl1 (by omega)), ht76]; rfl)
           refine d1 rfl K (os_indexAddr (j := i) el_S_api_Token (congrArg some q81) rfl (by rw [List.length_map]; omega)) rfl rfl fun _ K => ?_
           refine d1 rfl K (os_fieldAddr fo_api_Token_0 rfl) rfl rfl fun _ K => ?_
           refine d1 rfl K (os_load rfl (lo81 _ 0 _ tk_int rfl)) rfl rfl fun _ K => ?_
           refine d1 rfl K (os_neI rfl rfl) rfl rfl fun _ K => ?_
           refine dB rfl K (os_move rfl) rfl rfl fun b85 _ e85 K => ?_
           cases b85
           · replace e85 : (t76.kind = t76.kind) := by simpa using e85
             refine dg rfl K rfl rfl (os_move rfl) rfl rfl fun _ K => ?_
             refine dg rfl K rfl rfl (os_move rfl) rfl rfl fun _ K => ?_
             obtain ⟨x88, m88, f88, q88, _, la88, lo88, lp88⟩ := (Mem.accR (L := ((c32, 0, [.str [32], .str [9, 10], .str [35, 32, 120, 32, 60, 32, 51, 32, 206, 177, 10], .str [13, 35, 32, 10]]) :: (A26 ++ []))) (A := A43) (B := []) (Mem.cast (M := ((c32, 0, [.str [32], .str [9, 10], .str [35, 32, 120, 32, 60, 32, 51, 32, 206, 177, 10], .str [13, 35, 32, 10]]) :: (A26 ++ (A43 ++ [])))) (M' := ((c32, 0, [.str [32], .str [9, 10], .str [35, 32, 120, 32, 60, 32, 51, 32, 206, 177, 10], .str [13, 35, 32, 10]]) :: (A26 ++ [])) ++ (A43 ++ [])) M (by simp only [List.append_assoc, List.cons_append, List.nil_append, List.append_nil])) hA43).load (i := i) (cs := [.int .i64 t76.kind, .str (textOf t76.text), .int .i64 (t76.num : Int), .int .i64 ((t76.at' + 11 : Nat) : Int)]) (by rw [List.getElem?_map, hm1, List.getElem?_append_left (by rw [List.length_map]; exact lt_last (i := i) hl1 (by omega)), List.getElem?_map, ht76]; rfl)
             refine dg rfl K rfl rfl (os_indexAddr (j := i) el_S_api_Token (congrArg some q88) rfl (by rw [List.length_map, hm1, List.length_append, List.length_map]; have := lt_last (i := i) hl1 (by omega); simp; omega)) rfl rfl fun _ K => ?_
             refine dg rfl K rfl rfl (os_fieldAddr fo_api_Token_1 rfl) rfl rfl fun _ K => ?_
             refine dg rfl K rfl rfl (os_load rfl (lo88 _ 1 _ tk_string rfl)) rfl rfl fun _ K => ?_
             refine dg rfl K rfl rfl (os_move rfl) rfl rfl fun _ K => ?_
             refine dg rfl K rfl rfl (os_move rfl) rfl rfl fun _ K => ?_
             obtain ⟨x93, m93, f93, q93, _, la93, lo93, lp93⟩ := (Mem.accR (L := [(c32, 0, [.str [32], .str [9, 10], .str [35, 32, 120, 32, 60, 32, 51, 32, 206, 177, 10], .str [13, 35, 32, 10]])]) (A := A26) (B := (A43 ++ [])) M hA26).load (i := i) (cs := _) (by rw [List.getElem?_map, hl1, List.getElem?_append_left (lt_last (i := i) hl1 (by omega)), ht76]; rfl)
             refine dg rfl K rfl rfl (os_indexAddr (j := i) el_S_api_Token (congrArg some q93) rfl (by rw [List.length_map]; omega)) rfl rfl fun _ K => ?_
             refine dg rfl K rfl rfl (os_fieldAddr fo_api_Token_1 rfl) rfl rfl fun _ K => ?_
             refine dg rfl K rfl rfl (os_load rfl (lo93 _ 1 _ tk_string rfl)) rfl rfl fun _ K => ?_
             refine dg rfl K rfl rfl (os_neS rfl rfl) rfl rfl fun _ K => ?_
             refine d1 rfl K (os_pick rfl rfl rfl) rfl rfl fun _ K => ?_
             refine dB rfl K (os_move rfl) rfl rfl fun b98 _ e98 K => ?_
             cases b98
             · replace e98 : ((textOf t76.text) = (textOf t76.text)) := by simpa using e98
               refine dg rfl K rfl rfl (os_move rfl) rfl rfl fun _ K => ?_
               refine dg rfl K rfl rfl (os_move rfl) rfl rfl fun _ K => ?_
               obtain ⟨x101, m101, f101, q101, _, la101, lo101, lp101⟩ := (Mem.accR (L := ((c32, 0, [.str [32], .str [9, 10], .str [35, 32, 120, 32, 60, 32, 51, 32, 206, 177, 10], .str [13, 35, 32, 10]]) :: (A26 ++ []))) (A := A43) (B := []) (Mem.cast (M := ((c32, 0, [.str [32], .str [9, 10], .str [35, 32, 120, 32, 60, 32, 51, 32, 206, 177, 10], .str [13, 35, 32, 10]]) :: (A26 ++ (A43 ++ [])))) (M' := ((c32, 0, [.str [32], .str [9, 10], .str [35, 32, 120, 32, 60, 32, 51, 32, 206, 177, 10], .str [13, 35, 32, 10]]) :: (A26 ++ [])) ++ (A43 ++ [])) M (by simp only [List.append_assoc, List.cons_append, List.nil_append, List.append_nil])) hA43).load (i := i) (cs := [.int .i64 t76.kind, .str (textOf t76.text), .int .i64 (t76.num : Int), .int .i64 ((t76.at' + 11 : Nat) : Int)]) (by rw [List.getElem?_map, hm1, List.getElem?_append_left (by rw [List.length_map]; exact lt_last (i := i) hl1 (by omega)), List.getElem?_map, ht76]; rfl)
               refine dg rfl K rfl rfl (os_indexAddr (j := i) el_S_api_Token (congrArg some q101) rfl (by rw [List.length_map, hm1, List.length_append, List.length_map]; have := lt_last (i := i) hl1 (by omega); simp; omega)) rfl rfl fun _ K => ?_
               refine dg rfl K rfl rfl (os_fieldAddr fo_api_Token_2 rfl) rfl rfl fun _ K => ?_
               refine dg rfl K rfl rfl (os_load rfl (lo101 _ 2 _ tk_int rfl)) rfl rfl fun _ K => ?_
               refine dg rfl K rfl rfl (os_move rfl) rfl rfl fun _ K => ?_
               refine dg rfl K rfl rfl (os_move rfl) rfl rfl fun _ K => ?_
               obtain ⟨x106, m106, f106, q106, _, la106, lo106, lp106⟩ := (Mem.accR (L := [(c32, 0, [.str [32], .str [9, 10], .str [35, 32, 120, 32, 60, 32, 51, 32, 206, 177, 10], .str [13, 35, 32, 10]])]) (A := A26) (B := (A43 ++ [])) M hA26).load (i := i) (cs := _) (by rw [List.getElem?_map, hl1, List.getElem?_append_left (lt_last (i := i) hl1 (by omega)), ht76]; rfl)
               refine dg rfl K rfl rfl (os_indexAddr (j := i) el_S_api_Token (congrArg some q106) rfl (by rw [List.length_map]; omega)) rfl rfl fun _ K => ?_
               refine dg rfl K rfl rfl (os_fieldAddr fo_api_Token_2 rfl) rfl rfl fun _ K => ?_
               refine dg rfl K rfl rfl (os_load rfl (lo106 _ 2 _ tk_int rfl)) rfl rfl fun _ K => ?_
               refine dg rfl K rfl rfl (os_neI rfl rfl) rfl rfl fun _ K => ?_
               refine d1 rfl K (os_pick rfl rfl rfl) rfl rfl fun _ K => ?_
               refine dB rfl K (os_move rfl) rfl rfl fun b111 _ e111 K => ?_
               cases b111
               · replace e111 : (((t76.num : Nat) : Int) = ((t76.num : Nat) : Int)) := by simpa using e111
                 refine dg rfl K rfl rfl (os_move rfl) rfl rfl fun _ K => ?_
                 refine dg rfl K rfl rfl (os_move rfl) rfl rfl fun _ K => ?_
                 obtain ⟨x114, m114, f114, q114, _, la114, lo114, lp114⟩ := (Mem.accR (L := ((c32, 0, [.str [32], .str [9, 10], .str [35, 32, 120, 32, 60, 32, 51, 32, 206, 177, 10], .str [13, 35, 32, 10]]) :: (A26 ++ []))) (A := A43) (B := []) (Mem.cast (M := ((c32, 0, [.str [32], .str [9, 10], .str [35, 32, 120, 32, 60, 32, 51, 32, 206, 177, 10], .str [13, 35, 32, 10]]) :: (A26 ++ (A43 ++ [])))) (M' := ((c32, 0, [.str [32], .str [9, 10], .str [35, 32, 120, 32, 60, 32, 51, 32, 206, 177, 10], .str [13, 35, 32, 10]]) :: (A26 ++ [])) ++ (A43 ++ [])) M (by simp only [List.append_assoc, List.cons_append, List.nil_append, List.append_nil])) hA43).load (i := i) (cs := [.int .i64 t76.kind, .str (textOf t76.text), .int .i64 (t76.num : Int), .int .i64 ((t76.at' + 11 : Nat) : Int)]) (by rw [List.getElem?_map, hm1, List.getElem?_append_left (by rw [List.length_map]; exact lt_last (i := i) hl1 (by omega)), List.getElem?_map, ht76]; rfl)
                 refine dg rfl K rfl rfl (os_indexAddr (j := i) el_S_api_Token (congrArg some q114) rfl (by rw [List.length_map, hm1, List.length_append, List.length_map]; have := lt_last (i := i) hl1 (by omega); simp; omega)) rfl rfl fun _ K => ?_
                 refine dg rfl K rfl rfl (os_fieldAddr fo_api_Token_3 rfl) rfl rfl fun _ K => ?_
                 refine dg rfl K rfl rfl (os_load rfl (lo114 _ 3 _ tk_int rfl)) rfl rfl fun _ K => ?_
                 refine dg rfl K rfl rfl (os_move rfl) rfl rfl fun _ K => ?_
                 refine dg rfl K rfl rfl (os_move rfl) rfl rfl fun _ K => ?_
                 obtain ⟨x119, m119, f119, q119, _, la119, lo119, lp119⟩ := (Mem.accR (L := [(c32, 0, [.str [32], .str [9, 10], .str [35, 32, 120, 32, 60, 32, 51, 32, 206, 177, 10], .str [13, 35, 32, 10]])]) (A := A26) (B := (A43 ++ [])) M hA26).load (i := i) (cs := _) (by rw [List.getElem?_map, hl1, List.getElem?_append_left (lt_last (i := i) hl1 (by omega)), ht76]; rfl)
                 refine dg rfl K rfl rfl (os_indexAddr (j := i) el_S_api_Token (congrArg some q119) rfl (by rw [List.length_map]; omega)) rfl rfl fun _ K => ?_
                 refine dg rfl K rfl rfl (os_fieldAddr fo_api_Token_3 rfl) rfl rfl fun _ K => ?_
                 refine dg rfl K rfl rfl (os_load rfl (lo119 _ 3 _ tk_int rfl)) rfl rfl fun _ K => ?_
                 refine dg rfl K rfl rfl (os_move rfl) rfl rfl fun _ K => ?_
                 refine dg rfl K rfl rfl (os_lenS un_string rfl rfl) rfl rfl fun _ K => ?_
                 refine dg rfl K rfl rfl (os_add rfl rfl (by omega) (by omega)) rfl rfl fun _ K => ?_
                 refine dg rfl K rfl rfl (os_neI rfl rfl) rfl rfl fun _ K => ?_
                 refine d1 rfl K (os_pick rfl rfl rfl) rfl rfl fun _ K => ?_
                 refine wd_nil ?_
                 show W _ _ _ _ _ _ _
                 refine w_cond (K.opd rfl) (fun h126 => ?_) (fun h126 => ?_)
                 · have hb126 := h126
                   replace h126 : ¬ ((((t76.at' + 11) : Nat) : Int) = (((t76.at' : Nat) : Int) + ((([35, 32, 120, 32, 60, 32, 51, 32, 206, 177, 10]).length : Nat) : Int))) := by simpa using h126
                   refine w_seq ?_
                   refine w_region ?_
                   refine o1 K (os_assign rfl) rfl fun _ K => ?_
                   refine wr_nil ?_
                   show W _ _ _ _ _ _ _
                   refine w_ret ?_
                   refine ⟨.inr rfl, _, (res_one (rs_tmp K rfl)), ?_⟩
                   first
                    | rfl
                    | (exfalso; simp_all; done)
                    | (exfalso; omega)
                    | (exfalso; simp_all; omega)
                 have hb126 := h126
                 replace h126 : ((((t76.at' + 11) : Nat) : Int) = (((t76.at' : Nat) : Int) + ((([35, 32, 120, 32, 60, 32, 51, 32, 206, 177, 10]).length : Nat) : Int))) := by simpa using h126
                 refine w_skip ?_
                 show W _ _ _ _ _ _ _
                 refine w_region ?_
                 refine o1 K (os_move rfl) rfl fun _ K => ?_
                 refine o1 K (os_add rfl rfl (by omega) (by omega)) rfl fun _ K => ?_
                 refine o1 K (os_assign rfl) rfl fun _ K => ?_
                 refine wr_nil ?_
                 exact ⟨_, (by omega), i + 1, rfl, (.cons (K _ _ rfl) (.cons (K _ _ rfl) (.cons (K _ _ rfl) (.cons (K _ _ rfl) .nil)))), M.less (.refl _), (by omega)⟩
               replace e111 : ¬ (((t76.num : Nat) : Int) = ((t76.num : Nat) : Int)) := by simpa using e111
               refine dgn rfl K rfl rfl rfl rfl fun _ _ K => ?_
               refine dgn rfl K rfl rfl rfl rfl fun _ _ K => ?_
               refine dgn rfl K rfl rfl rfl rfl fun _ _ K => ?_
               refine dgn rfl K rfl rfl rfl rfl fun _ _ K => ?_
               refine dgn rfl K rfl rfl rfl rfl fun _ _ K => ?_
               refine dgn rfl K rfl rfl rfl rfl fun _ _ K => ?_
               refine dgn rfl K rfl rfl rfl rfl fun _ _ K => ?_
               refine dgn rfl K rfl rfl rfl rfl fun _ _ K => ?_
               refine dgn rfl K rfl rfl rfl rfl fun _ _ K => ?_
               refine dgn rfl K rfl rfl rfl rfl fun _ _ K => ?_
               refine dgn rfl K rfl rfl rfl rfl fun _ _ K => ?_
               refine dgn rfl K rfl rfl rfl rfl fun _ _ K => ?_
               refine dgn rfl K rfl rfl rfl rfl fun _ _ K => ?_
               refine dgn rfl K rfl rfl rfl rfl fun _ _ K => ?_
               refine d1 rfl K (os_pick rfl rfl rfl) rfl rfl fun _ K => ?_
               refine wd_nil ?_
               show W _ _ _ _ _ _ _
               refine w_cond (t := true) (K.opd rfl) (fun _ => ?_) (fun h => by cases h)
               refine w_seq ?_
               refine w_region ?_
               refine o1 K (os_assign rfl) rfl fun _ K => ?_
               refine wr_nil ?_
               show W _ _ _ _ _ _ _
               refine w_ret ?_
               refine ⟨.inr rfl, _, (res_one (rs_tmp K rfl)), ?_⟩
               first
                | rfl
                | (exfalso; simp_all; done)
                | (exfalso; omega)
                | (exfalso; simp_all; omega)
             replace e98 : ¬ ((textOf t76.text) = (textOf t76.text)) := by simpa using e98
             refine dgn rfl K rfl rfl rfl rfl fun _ _ K => ?_
             refine dgn rfl K rfl rfl rfl rfl fun _ _ K => ?_
             refine dgn rfl K rfl rfl rfl rfl fun _ _ K => ?_
             refine dgn rfl K rfl rfl rfl rfl fun _ _ K => ?_
             refine dgn rfl K rfl rfl rfl rfl fun _ _ K => ?_
             refine dgn rfl K rfl rfl rfl rfl fun _ _ K => ?_
             refine dgn rfl K rfl rfl rfl rfl fun _ _ K => ?_
             refine dgn rfl K rfl rfl rfl rfl fun _ _ K => ?_
             refine dgn rfl K rfl rfl rfl rfl fun _ _ K => ?_
             refine dgn rfl K rfl rfl rfl rfl fun _ _ K => ?_
             refine dgn rfl K rfl rfl rfl rfl fun _ _ K => ?_
             refine d1 rfl K (os_pick rfl rfl rfl) rfl rfl fun _ K => ?_
             refine d1 rfl K (os_move rfl) rfl rfl fun _ K => ?_
             refine dgn rfl K rfl rfl rfl rfl fun _ _ K => ?_
             refine dgn rfl K rfl rfl rfl rfl fun _ _ K => ?_
             refine dgn rfl K rfl rfl rfl rfl fun _ _ K => ?_
             refine dgn rfl K rfl rfl rfl rfl fun _ _ K => ?_
             refine dgn rfl K rfl rfl rfl rfl fun _ _ K => ?_
             refine dgn rfl K rfl rfl rfl rfl fun _ _ K => ?_
             refine dgn rfl K rfl rfl rfl rfl fun _ _ K => ?_
             refine dgn rfl K rfl rfl rfl rfl fun _ _ K => ?_
             refine dgn rfl K rfl rfl rfl rfl fun _ _ K => ?_
             refine dgn rfl K rfl rfl rfl rfl fun _ _ K => ?_
             refine dgn rfl K rfl rfl rfl rfl fun _ _ K => ?_
             refine dgn rfl K rfl rfl rfl rfl fun _ _ K => ?_
             refine dgn rfl K rfl rfl rfl rfl fun _ _ K => ?_
             refine dgn rfl K rfl rfl rfl rfl fun _ _ K => ?_
             refine d1 rfl K (os_pick rfl rfl rfl) rfl rfl fun _ K => ?_
             refine wd_nil ?_
             show W _ _ _ _ _ _ _
             refine w_cond (t := true) (K.opd rfl) (fun _ => ?_) (fun h => by cases h)
             refine w_seq ?_
             refine w_region ?_
             refine o1 K (os_assign rfl) rfl fun _ K => ?_
             refine wr_nil ?_
             show W _ _ _ _ _ _ _
             refine w_ret ?_
             refine ⟨.inr rfl, _, (res_one (rs_tmp K rfl)), ?_⟩
             first
              | rfl
              | (exfalso; simp_all; done)
              | (exfalso; omega)
              | (exfalso; simp_all; omega)
           replace e85 : ¬ (t76.kind = t76.kind) := by simpa using e85
           refine dgn rfl K rfl rfl rfl rfl fun _ _ K => ?_
           refine dgn rfl K rfl rfl rfl rfl fun _ _ K => ?_
           refine dgn rfl K rfl rfl rfl rfl fun _ _ K => ?_
           refine dgn rfl K rfl rfl rfl rfl fun _ _ K => ?_
           refine dgn rfl K rfl rfl rfl rfl fun _ _ K => ?_
           refine dgn rfl K rfl rfl rfl rfl fun _ _ K => ?_
           refine dgn rfl K rfl rfl rfl rfl fun _ _ K => ?_
           refine dgn rfl K rfl rfl rfl rfl fun _ _ K => ?_
           refine dgn rfl K rfl rfl rfl rfl fun _ _ K => ?_
           refine dgn rfl K rfl rfl rfl rfl fun _ _ K => ?_
           refine dgn rfl K rfl rfl rfl rfl fun _ _ K => ?_
           refine d1 rfl K (os_pick rfl rfl rfl) rfl rfl fun _ K => ?_
           refine d1 rfl K (os_move rfl) rfl rfl fun _ K => ?_
           refine dgn rfl K rfl rfl rfl rfl fun _ _ K => ?_
           refine dgn rfl K rfl rfl rfl rfl fun _ _ K => ?_
           refine dgn rfl K rfl rfl rfl rfl fun _ _ K => ?_
           refine dgn rfl K rfl rfl rfl rfl fun _ _ K => ?_
           refine dgn rfl K rfl rfl rfl rfl fun _ _ K => ?_
           refine dgn rfl K rfl rfl rfl rfl fun _ _ K => ?_
           refine dgn rfl K rfl rfl rfl rfl fun _ _ K => ?_
           refine dgn rfl K rfl rfl rfl rfl fun _ _ K => ?_
           refine dgn rfl K rfl rfl rfl rfl fun _ _ K => ?_
           refine dgn rfl K rfl rfl rfl rfl fun _ _ K => ?_
           refine dgn rfl K rfl rfl rfl rfl fun _ _ K => ?_
           refine d1 rfl K (os_pick rfl rfl rfl) rfl rfl fun _ K => ?_
           refine d1 rfl K (os_move rfl) rfl rfl fun _ K => ?_
           refine dgn rfl K rfl rfl rfl rfl fun _ _ K => ?_
           refine dgn rfl K rfl rfl rfl rfl fun _ _ K => ?_
           refine dgn rfl K rfl rfl rfl rfl fun _ _ K => ?_
           refine dgn rfl K rfl rfl rfl rfl fun _ _ K => ?_
           refine dgn rfl K rfl rfl rfl rfl fun _ _ K => ?_
           refine dgn rfl K rfl rfl rfl rfl fun _ _ K => ?_
           refine dgn rfl K rfl rfl rfl rfl fun _ _ K => ?_
           refine dgn rfl K rfl rfl rfl rfl fun _ _ K => ?_
           refine dgn rfl K rfl rfl rfl rfl fun _ _ K => ?_
           refine dgn rfl K rfl rfl rfl rfl fun _ _ K => ?_
           refine dgn rfl K rfl rfl rfl rfl fun _ _ K => ?_
           refine dgn rfl K rfl rfl rfl rfl fun _ _ K => ?_
           refine dgn rfl K rfl rfl rfl rfl fun _ _ K => ?_
           refine dgn rfl K rfl rfl rfl rfl fun _ _ K => ?_
           refine d1 rfl K (os_pick rfl rfl rfl) rfl rfl fun _ K => ?_
           refine wd_nil ?_
           show W _ _ _ _ _ _ _
           refine w_cond (t := true) (K.opd rfl) (fun _ => ?_) (fun h => by cases h)
           refine w_seq ?_
           refine w_region ?_
           refine o1 K (os_assign rfl) rfl fun _ K => ?_
           refine wr_nil ?_
           show W _ _ _ _ _ _ _
           refine w_ret ?_
           refine ⟨.inr rfl, _, (res_one (rs_tmp K rfl)), ?_⟩
           first
            | rfl
            | (exfalso; simp_all; done)
            | (exfalso; omega)
            | (exfalso; simp_all; omega)
         have hb71 := h71
         replace h71 := of_decide_eq_false h71
         refine w_exit ?_
         show W _ _ _ _ _ _ _
         refine w_seq ?_
         refine w_region ?_
         have ev127 := known2_evS
         refine o1 K (os_call rfl (ev127 _)) rfl fun _ K => ?_
         refine o1 K (os_assign rfl) rfl fun _ K => ?_
         refine wr_nil ?_
         show W _ _ _ _ _ _ _
         refine w_ret ?_
         refine ⟨.inr rfl, _, (res_one (rs_tmp K rfl)), ?_⟩
         first
          | rfl
          | (exfalso; simp_all; done)
          | (exfalso; omega)
          | (exfalso; simp_all; omega)
       replace e56 : ¬ (((((tokens (bytesOf ((([35, 32, 120, 32, 60, 32, 51, 32, 206, 177, 10] ++ l) ++ [10]) ++ [35, 32, 120, 32, 60, 32, 51, 32, 206, 177, 10]))).1.map TokR.cells).length : Nat) : Int) = ((((tokens (bytesOf l)).1.map TokR.cells).length : Nat) : Int)) := by simpa using e56
       refine gn K rfl rfl rfl rfl fun _ K => ?_
       refine gn K rfl rfl rfl rfl fun _ K => ?_
       refine gn K rfl rfl rfl rfl fun _ K => ?_
       refine gn K rfl rfl rfl rfl fun _ K => ?_
       refine gn K rfl rfl rfl rfl fun _ K => ?_
       refine gn K rfl rfl rfl rfl fun _ K => ?_
       refine gn K rfl rfl rfl rfl fun _ K => ?_
       refine gn K rfl rfl rfl rfl fun _ K => ?_
       refine gn K rfl rfl rfl rfl fun _ K => ?_
       refine o1 K (os_pick rfl rfl rfl) rfl fun _ K => ?_
       refine wr_nil ?_
       show W _ _ _ _ _ _ _
       refine w_cond (t := true) (K.opd rfl) (fun _ => ?_) (fun h => by cases h)
       refine w_seq ?_
       refine w_region ?_
       refine o1 K (os_assign rfl) rfl fun _ K => ?_
       refine wr_nil ?_
       show W _ _ _ _ _ _ _
       refine w_ret ?_
       refine ⟨.inr rfl, _, (res_one (rs_tmp K rfl)), ?_⟩
       first
        | rfl
        | (exfalso; simp_all; done)
        | (exfalso; omega)
        | (exfalso; simp_all; omega)
     replace e49 : ¬ ((tokens (bytesOf ((([35, 32, 120, 32, 60, 32, 51, 32, 206, 177, 10] ++ l) ++ [10]) ++ [35, 32, 120, 32, 60, 32, 51, 32, 206, 177, 10]))).2.2 = 0) := by simpa using e49
     refine gn K rfl rfl rfl rfl fun _ K => ?_
     refine gn K rfl rfl rfl rfl fun _ K => ?_
     refine gn K rfl rfl rfl rfl fun _ K => ?_
     refine gn K rfl rfl rfl rfl fun _ K => ?_
     refine gn K rfl rfl rfl rfl fun _ K => ?_
     refine o1 K (os_pick rfl rfl rfl) rfl fun _ K => ?_
     refine o1 K (os_move rfl) rfl fun _ K => ?_
     refine gn K rfl rfl rfl rfl fun _ K => ?_
     refine gn K rfl rfl rfl rfl fun _ K => ?_
     refine gn K rfl rfl rfl rfl fun _ K => ?_
     refine gn K rfl rfl rfl rfl fun _ K => ?_
     refine gn K rfl rfl rfl rfl fun _ K => ?_
     refine gn K rfl rfl rfl rfl fun _ K => ?_
     refine gn K rfl rfl rfl rfl fun _ K => ?_
     refine gn K rfl rfl rfl rfl fun _ K => ?_
     refine gn K rfl rfl rfl rfl fun _ K => ?_
     refine o1 K (os_pick rfl rfl rfl) rfl fun _ K => ?_
     refine wr_nil ?_
     show W _ _ _ _ _ _ _
     refine w_cond (t := true) (K.opd rfl) (fun _ => ?_) (fun h => by cases h)
     refine w_seq ?_
     refine w_region ?_
     refine o1 K (os_assign rfl) rfl fun _ K => ?_
     refine wr_nil ?_
     show W _ _ _ _ _ _ _
     refine w_ret ?_
     refine ⟨.inr rfl, _, (res_one (rs_tmp K rfl)), ?_⟩
     first
      | rfl
      | (exfalso; simp_all; done)
      | (exfalso; omega)
      | (exfalso; simp_all; omega)
   replace e20 := of_decide_eq_true e20
   refine gn K rfl rfl rfl rfl fun _ K => ?_
   refine gn K rfl rfl rfl rfl fun _ K => ?_
   refine o1 K (os_pick rfl rfl rfl) rfl fun _ K => ?_
   refine wr_nil ?_
   show W _ _ _ _ _ _ _
   refine w_cond (t := true) (K.opd rfl) (fun _ => ?_) (fun h => by cases h)
   refine w_seq ?_
   refine w_region ?_
   refine o1 K (os_assign rfl) rfl fun _ K => ?_
   refine wr_nil ?_
   show W _ _ _ _ _ _ _
   refine w_ret ?_
   refine ⟨.inr rfl, _, (res_one (rs_tmp K rfl)), ?_⟩
   first
    | rfl
    | (exfalso; simp_all; done)
    | (exfalso; omega)
    | (exfalso; simp_all; omega)
 replace e16 := of_decide_eq_true e16
 refine gn K rfl rfl rfl rfl fun _ K => ?_
 refine gn K rfl rfl rfl rfl fun _ K => ?_
 refine o1 K (os_pick rfl rfl rfl) rfl fun _ K => ?_
 refine o1 K (os_move rfl) rfl fun _ K => ?_
 refine gn K rfl rfl rfl rfl fun _ K => ?_
 refine gn K rfl rfl rfl rfl fun _ K => ?_
 refine o1 K (os_pick rfl rfl rfl) rfl fun _ K => ?_
 refine wr_nil ?_
 show W _ _ _ _ _ _ _
 refine w_cond (t := true) (K.opd rfl) (fun _ => ?_) (fun h => by cases h)
 refine w_seq ?_
 refine w_region ?_
 refine o1 K (os_assign rfl) rfl fun _ K => ?_
 refine wr_nil ?_
 show W _ _ _ _ _ _ _
 refine w_ret ?_
 refine ⟨.inr rfl, _, (res_one (rs_tmp K rfl)), ?_⟩
 first
  | rfl
  | (exfalso; simp_all; done)
  | (exfalso; omega)
  | (exfalso; simp_all; omega)

theorem lexSpaces_ev3 {st : St} (hf : Fresh st) (l : List Nat) (hB : Bytes l) (hl : l.length ≤ 140737488351232) : ∃ v st', Ev Tryd.prog envD 6 [.str l, .int .i64 3] st v st' ∧ v = .bool true := by
 have hgl : ([13, 35, 32, 10] : List Nat).length = 4 := rfl
 have htl := tokens_len (bytesOf l)
 have hml : ((tokens (bytesOf l)).1.map TokR.cells).length = (tokens (bytesOf l)).1.length := by simp
 have htm := tokens_len (bytesOf ((([13, 35, 32, 10] ++ l) ++ [10]) ++ [13, 35, 32, 10]))
 have hmm : ((tokens (bytesOf ((([13, 35, 32, 10] ++ l) ++ [10]) ++ [13, 35, 32, 10]))).1.map TokR.cells).length = (tokens (bytesOf ((([13, 35, 32, 10] ++ l) ++ [10]) ++ [13, 35, 32, 10]))).1.length := by simp
 refine ev_fn rfl Tryd.func6 rfl Tryd.ntmps6 rfl (by decide) (by simp) fun T hT => ?_
 have K : KnT [(0, _), (1, _)] T := (.cons (hT 0) (.cons (hT 1) .nil))
 have M := Mem.start hf
 refine w_seq ?_
 refine w_region ?_
 refine o1 K (os_assign rfl) rfl fun _ K => ?_
 refine wr_nil ?_
 show W _ _ _ _ _ _ _
 refine w_seq ?_
 refine w_seq ?_
 refine w_region ?_
 refine o1 K (os_move rfl) rfl fun _ K => ?_
 refine o1 K (os_lenS un_string rfl rfl) rfl fun _ K => ?_
 refine o1 K (os_gtr rfl rfl) rfl fun _ K => ?_
 refine oB K (os_move rfl) rfl fun b16 _ e16 K => ?_
 cases b16
 · replace e16 := of_decide_eq_false e16
   refine og K rfl rfl (os_move rfl) rfl fun _ K => ?_
   refine og K rfl rfl (os_lss rfl rfl) rfl fun _ K => ?_
   refine o1 K (os_pick rfl rfl rfl) rfl fun _ K => ?_
   refine oB K (os_move rfl) rfl fun b20 _ e20 K => ?_
   cases b20
   · replace e20 := of_decide_eq_false e20
     refine og K rfl rfl (os_move rfl) rfl fun _ K => ?_
     refine og K rfl rfl (os_gtr rfl rfl) rfl fun _ K => ?_
     refine o1 K (os_pick rfl rfl rfl) rfl fun _ K => ?_
     refine wr_nil ?_
     show W _ _ _ _ _ _ _
     refine w_cond (K.opd rfl) (fun h23 => ?_) (fun h23 => ?_)
     · have hb23 := h23
       replace h23 := of_decide_eq_true h23
       refine w_seq ?_
       refine w_region ?_
       refine o1 K (os_assign rfl) rfl fun _ K => ?_
       refine wr_nil ?_
       show W _ _ _ _ _ _ _
       refine w_ret ?_
       refine ⟨.inr rfl, _, (res_one (rs_tmp K rfl)), ?_⟩
       first
        | rfl
        | (exfalso; simp_all; done)
        | (exfalso; omega)
        | (exfalso; simp_all; omega)
     have hb23 := h23
     replace h23 := of_decide_eq_false h23
     refine w_skip ?_
     show W _ _ _ _ _ _ _
     refine w_seq ?_
     refine w_region ?_
     refine o1 K (os_move rfl) rfl fun _ K => ?_
     obtain ⟨v26, st26, ev26, ks26, rfl, nr26, q26⟩ := rtokens_ev M.fresh l hB
     refine o1 K (os_call rfl ev26) rfl fun _ K => ?_
     obtain ⟨A26, hA26, M⟩ := M.callAcc q26 nr26
     refine o1 K (os_move rfl) rfl fun _ K => ?_
     refine o1 K (os_extract rfl rfl) rfl fun _ K => ?_
     refine o1 K (os_extract rfl rfl) rfl fun _ K => ?_
     refine o1 K (os_extract rfl rfl) rfl fun _ K => ?_
     refine o1 K (os_assign rfl) rfl fun _ K => ?_
     refine o1 K (os_assign rfl) rfl fun _ K => ?_
     refine o1 K (os_assign rfl) rfl fun _ K => ?_
     refine wr_nil ?_
     show W _ _ _ _ _ _ _
     refine w_seq ?_
     refine w_seq ?_
     refine w_region ?_
     refine o1 K (os_move rfl) rfl fun _ K => ?_
     refine o1 K (os_neI rfl rfl) rfl fun _ K => ?_
     refine wr_nil ?_
     show W _ _ _ _ _ _ _
     refine w_cond (K.opd rfl) (fun h31 => ?_) (fun h31 => ?_)
     · have hb31 := h31
       replace h31 : ¬ ((tokens (bytesOf l)).2.2 = 0) := by simpa using h31
       refine w_seq ?_
       refine w_region ?_
       refine o1 K (os_assign rfl) rfl fun _ K => ?_
       refine wr_nil ?_
       show W _ _ _ _ _ _ _
       refine w_ret ?_
       refine ⟨.inr rfl, _, (res_one (rs_tmp K rfl)), ?_⟩
       first
        | rfl
        | (exfalso; simp_all; done)
        | (exfalso; omega)
        | (exfalso; simp_all; omega)
     have hb31 := h31
     replace h31 : ((tokens (bytesOf l)).2.2 = 0) := by simpa using h31
     refine w_skip ?_
     show W _ _ _ _ _ _ _
     refine w_seq ?_
     refine w_region ?_
     refine wr_bs K M sl_S_string ze_string rfl rfl rfl rfl rfl fun c32 _ _ K M => ?_
     replace M : Mem st.h.get st.n [] _ ((c32, 0, [.str [32], .str [9, 10], .str [35, 32, 120, 32, 60, 32, 51, 32, 206, 177, 10], .str [13, 35, 32, 10]]) :: (A26 ++ [])) := M
     refine o1 K (os_move rfl) rfl fun _ K => ?_
     refine o1 K (os_indexAddr el_S_string rfl rfl (by decide)) rfl fun _ K => ?_
     refine o1 K (os_load rfl (M.load (k := 0) rfl (part_one tk_string rfl))) rfl fun _ K => ?_
     refine o1 K (os_assign rfl) rfl fun _ K => ?_
     refine wr_nil ?_
     show W _ _ _ _ _ _ _
     refine w_seq ?_
     refine w_region ?_
     refine o1 K (os_move rfl) rfl fun _ K => ?_
     refine o1 K (os_move rfl) rfl fun _ K => ?_
     refine o1 K (os_addS rfl rfl (by first | omega | (simp only [List.length_append, List.length_cons, List.length_nil]; omega))) rfl fun _ K => ?_
     refine o1 K (os_addS (b := [10]) rfl rfl (by first | omega | (simp only [List.length_append, List.length_cons, List.length_nil]; omega))) rfl fun _ K => ?_
     refine o1 K (os_move rfl) rfl fun _ K => ?_
     refine o1 K (os_addS rfl rfl (by first | omega | (simp only [List.length_append, List.length_cons, List.length_nil]; omega))) rfl fun _ K => ?_
     obtain ⟨ts, hl1, hat, te, hm1, hm2, hm3⟩ := tokens_gapL (gl := [13, 35, 32, 10]) (l := l) gap3 (by simp; omega) h31
     obtain ⟨v43, st43, ev43, ks43, rfl, nr43, q43⟩ := tokens_ev M.fresh ((([13, 35, 32, 10] ++ l) ++ [10]) ++ [13, 35, 32, 10]) (by omega)
     refine o1 K (os_call rfl ev43) rfl fun _ K => ?_
     obtain ⟨A43, hA43, M⟩ := M.callAcc q43 nr43
     replace M := Mem.cast (M' := ((c32, 0, [.str [32], .str [9, 10], .str [35, 32, 120, 32, 60, 32, 51, 32, 206, 177, 10], .str [13, 35, 32, 10]]) :: (A26 ++ (A43 ++ [])))) M (by simp only [List.append_assoc, List.cons_append, List.nil_append, List.append_nil])
     refine o1 K (os_move rfl) rfl fun _ K => ?_
     refine o1 K (os_extract rfl rfl) rfl fun _ K => ?_
     refine o1 K (os_extract rfl rfl) rfl fun _ K => ?_
     refine o1 K (os_extract rfl rfl) rfl fun _ K => ?_
     refine o1 K (os_assign rfl) rfl fun _ K => ?_
     refine o1 K (os_assign rfl) rfl fun _ K => ?_
     refine o1 K (os_assign rfl) rfl fun _ K => ?_
     refine wr_nil ?_
     show W _ _ _ _ _ _ _
     refine w_seq ?_
     refine w_seq ?_
     refine w_region ?_
     refine o1 K (os_move rfl) rfl fun _ K => ?_
     refine o1 K (os_neI rfl rfl) rfl fun _ K => ?_
     refine oB K (os_move rfl) rfl fun b49 _ e49 K => ?_
     cases b49
     · replace e49 : ((tokens (bytesOf ((([13, 35, 32, 10] ++ l) ++ [10]) ++ [13, 35, 32, 10]))).2.2 = 0) := by simpa using e49
       refine og K rfl rfl (os_move rfl) rfl fun _ K => ?_
       refine og K rfl rfl (os_lenL un_S_api_Token rfl rfl hA43.len) rfl fun _ K => ?_
       refine og K rfl rfl (os_move rfl) rfl fun _ K => ?_
       refine og K rfl rfl (os_lenL un_S_api_Token rfl rfl hA26.len) rfl fun _ K => ?_
       refine og K rfl rfl (os_neI rfl rfl) rfl fun _ K => ?_
       refine o1 K (os_pick rfl rfl rfl) rfl fun _ K => ?_
       refine oB K (os_move rfl) rfl fun b56 _ e56 K => ?_
       cases b56
       · replace e56 : (((((tokens (bytesOf ((([13, 35, 32, 10] ++ l) ++ [10]) ++ [13, 35, 32, 10]))).1.map TokR.cells).length : Nat) : Int) = ((((tokens (bytesOf l)).1.map TokR.cells).length : Nat) : Int)) := by simpa using e56
         refine og K rfl rfl (os_move rfl) rfl fun _ K => ?_
         refine og K rfl rfl (os_move rfl) rfl fun _ K => ?_
         refine og K rfl rfl (os_lenS un_string rfl rfl) rfl fun _ K => ?_
         refine og K rfl rfl (os_move rfl) rfl fun _ K => ?_
         refine og K rfl rfl (os_lenS un_string rfl rfl) rfl fun _ K => ?_
         refine og K rfl rfl (os_mulW (c := 2 * ((([13, 35, 32, 10]).length : Nat) : Int)) rfl rfl (IntWalk.i64_in _ (by omega))) rfl fun _ K => ?_
         refine og K rfl rfl (os_add rfl rfl (by omega) (by omega)) rfl fun _ K => ?_
         refine og K rfl rfl (os_add rfl rfl (by omega) (by omega)) rfl fun _ K => ?_
         refine og K rfl rfl (os_neI rfl rfl) rfl fun _ K => ?_
         refine o1 K (os_pick rfl rfl rfl) rfl fun _ K => ?_
         refine wr_nil ?_
         show W _ _ _ _ _ _ _
         refine w_cond (K.opd rfl) (fun h66 => ?_) (fun h66 => ?_)
         · have hb66 := h66
           replace h66 : ¬ ((((tokens (bytesOf ((([13, 35, 32, 10] ++ l) ++ [10]) ++ [13, 35, 32, 10]))).2.1 : Nat) : Int) = (((((l).length : Nat) : Int) + (2 * ((([13, 35, 32, 10]).length : Nat) : Int))) + 1)) := by simpa using h66
           refine w_seq ?_
           refine w_region ?_
           refine o1 K (os_assign rfl) rfl fun _ K => ?_
           refine wr_nil ?_
           show W _ _ _ _ _ _ _
           refine w_ret ?_
           refine ⟨.inr rfl, _, (res_one (rs_tmp K rfl)), ?_⟩
           first
            | rfl
            | (exfalso; simp_all; done)
            | (exfalso; omega)
            | (exfalso; simp_all; omega)
         have hb66 := h66
         replace h66 : ((((tokens (bytesOf ((([13, 35, 32, 10] ++ l) ++ [10]) ++ [13, 35, 32, 10]))).2.1 : Nat) : Int) = (((((l).length : Nat) : Int) + (2 * ((([13, 35, 32, 10]).length : Nat) : Int))) + 1)) := by simpa using h66
         refine w_skip ?_
         show W _ _ _ _ _ _ _
         refine w_seq ?_
         refine w_seq ?_
         refine w_region ?_
         refine o1 K (os_assign rfl) rfl fun _ K => ?_
         refine wr_nil ?_
         show W _ _ _ _ _ _ _
         refine w_block ?_
         refine w_loop (fun mm1 T st9 => ∃ (i : Nat), mm1 = (tokens (bytesOf l)).1.length - i ∧ KnT [(5, ks26), (8, .str [13, 35, 32, 10]), (9, ks43), (12, .int .i64 (((i : Nat) : Int)))] T ∧ Mem st.h.get st.n [] st9 ((c32, 0, [.str [32], .str [9, 10], .str [35, 32, 120, 32, 60, 32, 51, 32, 206, 177, 10], .str [13, 35, 32, 10]]) :: (A26 ++ (A43 ++ []))) ∧ i ≤ (tokens (bytesOf l)).1.length) (fun mm1 T st9 hI => ?_) _ _ _ ⟨0, rfl, (.cons (K _ _ rfl) (.cons (K _ _ rfl) (.cons (K _ _ rfl) (.cons (K _ _ rfl) .nil)))), M.less (.refl _), (Nat.zero_le _)⟩
         obtain ⟨i, rfl, K, M, hi⟩ := hI
         refine w_seq ?_
         refine w_seq ?_
         refine w_region ?_
         refine o1 K (os_move rfl) rfl fun _ K => ?_
         refine o1 K (os_add rfl rfl (by omega) (by omega)) rfl fun _ K => ?_
         refine o1 K (os_move rfl) rfl fun _ K => ?_
         refine o1 K (os_lenL un_S_api_Token rfl rfl hA26.len) rfl fun _ K => ?_
         refine o1 K (os_lss rfl rfl) rfl fun _ K => ?_
         refine wr_nil ?_
         show W _ _ _ _ _ _ _
         refine w_cond (K.opd rfl) (fun h71 => ?_) (fun h71 => ?_)
         · have hb71 := h71
           replace h71 := of_decide_eq_true h71
           refine w_skip ?_
           show W _ _ _ _ _ _ _
           refine w_seq ?_
           refine w_block ?_
           refine w_seq ?_
           refine w_drawI (l := [(0, 0), (1, 0), (2, 0), (3, 0), (4, 0), (5, 0), (6, 0), (7, 0), (8, 0), (9, 0), (10, 0), (11, 0), (12, 0), (13, 0), (14, 0), (15, 0), (16, 0), (17, 0), (18, 0), (19, 0), (20, 0), (21, 0), (22, 0), (23, 0), (24, 0), (25, 0), (26, 0), (27, 0), (28, 0), (29, 0), (30, 0), (31, 0), (32, 0), (33, 0), (34, 0), (35, 0), (36, 0), (37, 0), (38, 0), (39, 0), (40, 0), (41, 0), (42, 0), (43, 0), (44, 0), (45, 0), (46, 0), (47, 0), (48, 0), (49, 0), (50, 0), (51, 0), (52, 0)]) (by kernel_rfl) ?_
           refine d1 rfl K (os_move rfl) rfl rfl fun _ K => ?_
           refine d1 rfl K (os_move rfl) rfl rfl fun _ K => ?_
           have hat76 := hat
           obtain ⟨t76, ht76⟩ : ∃ t, ts[i]? = some t := ⟨_, List.getElem?_eq_getElem (lt_last (i := i) hl1 (by omega))⟩
           replace hat76 := hat76 _ (List.mem_of_getElem? ht76)
           obtain ⟨x76, m76, f76, q76, _, la76, lo76, lp76⟩ := (Mem.accR (L := ((c32, 0, [.str [32], .str [9, 10], .str [35, 32, 120, 32, 60, 32, 51, 32, 206, 177, 10], .str [13, 35, 32, 10]]) :: (A26 ++ []))) (A := A43) (B := []) (Mem.cast (M := ((c32, 0, [.str [32], .str [9, 10], .str [35, 32, 120, 32, 60, 32, 51, 32, 206, 177, 10], .str [13, 35, 32, 10]]) :: (A26 ++ (A43 ++ [])))) (M' := ((c32, 0, [.str [32], .str [9, 10], .str [35, 32, 120, 32, 60, 32, 51, 32, 206, 177, 10], .str [13, 35, 32, 10]]) :: (A26 ++ [])) ++ (A43 ++ [])) M (by simp only [List.append_assoc, List.cons_append, List.nil_append, List.append_nil])) hA43).load (i := i) (cs := [.int .i64 t76.kind, .str (textOf t76.text), .int .i64 (t76.num : Int), .int .i64 ((t76.at' + 4 : Nat) : Int)]) (by rw [List.getElem?_map, hm1, List.getElem?_append_left (by rw [List.length_map]; exact lt_last (i := i) hl1 (by omega)), List.getElem?_map, ht76]; rfl)
           refine d1 rfl K (os_indexAddr (j := i) el_S_api_Token (congrArg some q76) rfl (by rw [List.length_map, hm1, List.length_append, List.length_map]; have := lt_last (i := i) hl1 (by omega); simp; omega)) rfl rfl fun _ K => ?_
           refine d1 rfl K (os_fieldAddr fo_api_Token_0 rfl) rfl rfl fun _ K => ?_
           refine d1 rfl K (os_load rfl (lo76 _ 0 _ tk_int rfl)) rfl rfl fun _ K => ?_
           refine d1 rfl K (os_move rfl) rfl rfl fun _ K => ?_
           refine d1 rfl K (os_move rfl) rfl rfl fun _ K => ?_
           obtain ⟨x81, m81, f81, q81, _, la81, lo81, lp81⟩ := (Mem.accR (L := [(c32, 0, [.str [32], .str [9, 10], .str [35, 32, 120, 32, 60, 32, 51, 32, 206, 177, 10], .str [13, 35, 32, 10]])]) (A := A26) (B := (A43 ++ [])) M hA26).load (i := i) (cs := _) (by rw [List.getElem?_map, hl1, List.getElem?_append_left (lt_last (i := i) hl1 (by omega)), ht76]; rfl)
           refine d1 rfl K (os_indexAddr (j := i) el_S_api_Token (congrArg some q81) rfl (by rw [List.length_map]; omega)) rfl rfl fun _ K => ?_
           refine d1 rfl K (os_fieldAddr fo_api_Token_0 rfl) rfl rfl fun _ K => ?_
           refine d1 rfl K (os_load rfl (lo81 _ 0 _ tk_int rfl)) rfl rfl fun _ K => ?_
           refine d1 rfl K (os_neI rfl rfl) rfl rfl fun _ K => ?_
           refine dB rfl K (os_move rfl) rfl rfl fun b85 _ e85 K => ?_
           cases b85
           · replace e85 : (t76.kind = t76.kind) := by simpa using e85
             refine dg rfl K rfl rfl (os_move rfl) rfl rfl fun _ K => ?_
             refine dg rfl K rfl rfl (os_move rfl) rfl rfl fun _ K => ?_
             obtain ⟨x88, m88, f88, q88, _, la88, lo88, lp88⟩ := (Mem.accR (L := ((c32, 0, [.str [32], .str [9, 10], .str [35, 32, 120, 32, 60, 32, 51, 32, 206, 177, 10], .str [13, 35, 32, 10]]) :: (A26 ++ []))) (A := A43) (B := []) (Mem.cast (M := ((c32, 0, [.str [32], .str [9, 10], .str [35, 32, 120, 32, 60, 32, 51, 32, 206, 177, 10], .str [13, 35, 32, 10]]) :: (A26 ++ (A43 ++ [])))) (M' := ((c32, 0, [.str [32], .str [9, 10], .str [35, 32, 120, 32, 60, 32, 51, 32, 206, 177, 10], .str [13, 35, 32, 10]]) :: (A26 ++ [])) ++ (A43 ++ [])) M (by simp only [List.append_assoc, List.cons_append, List.nil_append, List.append_nil])) hA43).load (i := i) (cs := [.int .i64 t76.kind, .str (textOf t76.text), .int .i64 (t76.num : Int), .int .i64 ((t76.at' + 4 : Nat) : Int)]) (by rw [List.getElem?_map, hm1, List.getElem?_append_left (by rw [List.length_map]; exact lt_last (i := i) hl1 (by omega)), List.getElem?_map, ht76]; rfl)
             refine dg rfl K rfl rfl (os_indexAddr (j := i) el_S_api_Token (congrArg some q88) rfl (by rw [List.length_map, hm1, List.length_append, List.length_map]; have := lt_last (i := i) hl1 (by omega); simp; omega)) rfl rfl fun _ K => ?_
             refine dg rfl K rfl rfl (os_fieldAddr fo_api_Token_1 rfl) rfl rfl fun _ K => ?_
             refine dg rfl K rfl rfl (os_load rfl (lo88 _ 1 _ tk_string rfl)) rfl rfl fun _ K => ?_
             refine dg rfl K rfl rfl (os_move rfl) rfl rfl fun _ K => ?_
             refine dg rfl K rfl rfl (os_move rfl) rfl rfl fun _ K => ?_
             obtain ⟨x93, m93, f93, q93, _, la93, lo93, lp93⟩ := (Mem.accR (L := [(c32, 0, [.str [32], .str [9, 10], .str [35, 32, 120, 32, 60, 32, 51, 32, 206, 177, 10], .str [13, 35, 32, 10]])]) (A := A26) (B := (A43 ++ [])) M hA26).load (i := i) (cs := _) (by rw [List.getElem?_map, hl1, List.getElem?_append_left (lt_last (i := i) hl1 (by omega)), ht76]; rfl)
             refine dg rfl K rfl rfl (os_indexAddr (j := i) el_S_api_Token (congrArg some q93) rfl (by rw [List.length_map]; omega)) rfl rfl fun _ K => ?_
             refine dg rfl K rfl rfl (os_fieldAddr fo_api_Token_1 rfl) rfl rfl fun _ K => ?_
             refine dg rfl K rfl rfl (os_load rfl (lo93 _ 1 _ tk_string rfl)) rfl rfl fun _ K => ?_
             refine dg rfl K rfl rfl (os_neS rfl rfl) rfl rfl fun _ K => ?_
             refine d1 rfl K (os_pick rfl rfl rfl) rfl rfl fun _ K => ?_
             refine dB rfl K (os_move rfl) rfl rfl fun b98 _ e98 K => ?_
             cases b98
             · replace e98 : ((textOf t76.text) = (textOf t76.text)) := by simpa using e98
               refine dg rfl K rfl rfl (os_move rfl) rfl rfl fun _ K => ?_
               refine dg rfl K rfl rfl (os_move rfl) rfl rfl fun _ K => ?_
               obtain ⟨x101, m101, f101, q101, _, la101, lo101, lp101⟩ := (Mem.accR (L := ((c32, 0, [.str [32], .str [9, 10], .str [35, 32, 120, 32, 60, 32, 51, 32, 206, 177, 10], .str [13, 35, 32, 10]]) :: (A26 ++ []))) (A := A43) (B := []) (Mem.cast (M := ((c32, 0, [.str [32], .str [9, 10], .str [35, 32, 120, 32, 60, 32, 51, 32, 206, 177, 10], .str [13, 35, 32, 10]]) :: (A26 ++ (A43 ++ [])))) (M' := ((c32, 0, [.str [32], .str [9, 10], .str [35, 32, 120, 32, 60, 32, 51, 32, 206, 177, 10], .str [13, 35, 32, 10]]) :: (A26 ++ [])) ++ (A43 ++ [])) M (by simp only [List.append_assoc, List.cons_append, List.nil_append, List.append_nil])) hA43).load (i := i) (cs := [.int .i64 t76.kind, .str (textOf t76.text), .int .i64 (t76.num : Int), .int .i64 ((t76.at' + 4 : Nat) : Int)]) (by rw [List.getElem?_map, hm1, List.getElem?_append_left (by rw [List.length_map]; exact lt_last (i := i) hl1 (by omega)), List.getElem?_map, ht76]; rfl)
               refine dg rfl K rfl rfl (os_indexAddr (j := i) el_S_api_Token (congrArg some q101) rfl (by rw [List.length_map, hm1, List.length_append, List.length_map]; have := lt_last (i := i) hl1 (by omega); simp; omega)) rfl rfl fun _ K => ?_
               refine dg rfl K rfl rfl (os_fieldAddr fo_api_Token_2 rfl) rfl rfl fun _ K => ?_
               refine dg rfl K rfl rfl (os_load rfl (lo101 _ 2 _ tk_int rfl)) rfl rfl fun _ K => ?_
               refine dg rfl K rfl rfl (os_move rfl) rfl rfl fun _ K => ?_
               refine dg rfl K rfl rfl (os_move rfl) rfl rfl fun _ K => ?_
               obtain ⟨x106, m106, f106, q106, _, la106, lo106, lp106⟩ := (Mem.accR (L := [(c32, 0, [.str [32], .str [9, 10], .str [35, 32, 120, 32, 60, 32, 51, 32, 206, 177, 10], .str [13, 35, 32, 10]])]) (A := A26) (B := (A43 ++ [])) M hA26).load (i := i) (cs := _) (by rw [List.getElem?_map, hl1, List.getElem?_append_left (lt_last (i := i) hl1 (by omega)), ht76]; rfl)
               refine dg rfl K rfl rfl (os_indexAddr (j := i) el_S_api_Token (congrArg some q106) rfl (by rw [List.length_map]; omega)) rfl rfl fun _ K => ?_
               refine dg rfl K rfl rfl (os_fieldAddr fo_api_Token_2 rfl) rfl rfl fun _ K => ?_
               refine dg rfl K rfl rfl (os_load rfl (lo106 _ 2 _ tk_int rfl)) rfl rfl fun _ K => ?_
               refine dg rfl K rfl rfl (os_neI rfl rfl) rfl rfl fun _ K => ?_
               refine d1 rfl K (os_pick rfl rfl rfl) rfl rfl fun _ K => ?_
               refine dB rfl K (os_move rfl) rfl rfl fun b111 _ e111 K => ?_
               cases b111
               · replace e111 : (((t76.num : Nat) : Int) = ((t76.num : Nat) : Int)) := by simpa using e111
                 refine dg rfl K rfl rfl (os_move rfl) rfl rfl fun _ K => ?_
                 refine dg rfl K rfl rfl (os_move rfl) rfl rfl fun _ K => ?_
                 obtain ⟨x114, m114, f114, q114, _, la114, lo114, lp114⟩ := (Mem.accR (L := ((c32, 0, [.str [32], .str [9, 10], .str [35, 32, 120, 32, 60, 32, 51, 32, 206, 177, 10], .str [13, 35, 32, 10]]) :: (A26 ++ []))) (A := A43) (B := []) (Mem.cast (M := ((c32, 0, [.str [32], .str [9, 10], .str [35, 32, 120, 32, 60, 32, 51, 32, 206, 177, 10], .str [13, 35, 32, 10]]) :: (A26 ++ (A43 ++ [])))) (M' := ((c32, 0, [.str [32], .str [9, 10], .str [35, 32, 120, 32, 60, 32, 51, 32, 206, 177, 10], .str [13, 35, 32, 10]]) :: (A26 ++ [])) ++ (A43 ++ [])) M (by simp only [List.append_assoc, List.cons_append, List.nil_append, List.append_nil])) hA43).load (i := i) (cs := [.int .i64 t76.kind, .str (textOf t76.text), .int .i64 (t76.num : Int), .int .i64 ((t76.at' + 4 : Nat) : Int)]) (by rw [List.getElem?_map, hm1, List.getElem?_append_left (by rw [List.length_map]; exact lt_last (i := i) hl1 (by omega)), List.getElem?_map, ht76]; rfl)
                 refine dg rfl K rfl rfl (os_indexAddr (j := i) el_S_api_Token (congrArg some q114) rfl (by rw [List.length_map, hm1, List.length_append, List.length_map]; have := lt_last (i := i) hl1 (by omega); simp; omega)) rfl rfl fun _ K => ?_
                 refine dg rfl K rfl rfl (os_fieldAddr fo_api_Token_3 rfl) rfl rfl fun _ K => ?_
                 refine dg rfl K rfl rfl (os_load rfl (lo114 _ 3 _ tk_int rfl)) rfl rfl fun _ K => ?_
                 refine dg rfl K rfl rfl (os_move rfl) rfl rfl fun _ K => ?_
                 refine dg rfl K rfl rfl (os_move rfl) rfl rfl fun _ K => ?_
                 obtain ⟨x119, m119, f119, q119, _, la119, lo119, lp119⟩ := (Mem.accR (L := [(c32, 0, [.str [32], .str [9, 10], .str [35, 32, 120, 32, 60, 32, 51, 32, 206, 177, 10], .str [13, 35, 32, 10]])]) (A := A26) (B := (A43 ++ [])) M hA26).load (i := i) (cs := _) (by rw [List.getElem?_map, hl1, List.getElem?_append_left (lt_last (i := i) hl1 (by omega)), ht76]; rfl)
                 refine dg rfl K rfl rfl (os_indexAddr (j := i) el_S_api_Token (congrArg some q119) rfl (by rw [List.length_map]; omega)) rfl rfl fun _ K => ?_
                 refine dg rfl K rfl rfl (os_fieldAddr fo_api_Token_3 rfl) rfl rfl fun _ K => ?_
                 refine dg rfl K rfl rfl (os_load rfl (lo119 _ 3 _ tk_int rfl)) rfl rfl fun _ K => ?_
                 refine dg rfl K rfl rfl (os_move rfl) rfl rfl fun _ K => ?_
                 refine dg rfl K rfl rfl (os_lenS un_string rfl rfl) rfl rfl fun _ K => ?_
                 refine dg rfl K rfl rfl (os_add rfl rfl (by omega) (by omega)) rfl rfl fun _ K => ?_
                 refine dg rfl K rfl rfl (os_neI rfl rfl) rfl rfl fun _ K => ?_
                 refine d1 rfl K (os_pick rfl rfl rfl) rfl rfl fun _ K => ?_
                 refine wd_nil ?_
                 show W _ _ _ _ _ _ _
                 refine w_cond (K.opd rfl) (fun h126 => ?_) (fun h126 => ?_)
                 · have hb126 := h126
                   replace h126 : ¬ ((((t76.at' + 4) : Nat) : Int) = (((t76.at' : Nat) : Int) + ((([13, 35, 32, 10]).length : Nat) : Int))) := by simpa using h126
                   refine w_seq ?_
                   refine w_region ?_
                   refine o1 K (os_assign rfl) rfl fun _ K => ?_
                   refine wr_nil ?_
                   show W _ _ _ _ _ _ _
                   refine w_ret ?_
                   refine ⟨.inr rfl, _, (res_one (rs_tmp K rfl)), ?_⟩
                   first
                    | rfl
                    | (exfalso; simp_all; done)
                    | (exfalso; omega)
                    | (exfalso; simp_all; omega)
                 have hb126 := h126
                 replace h126 : ((((t76.at' + 4) : Nat) : Int) = (((t76.at' : Nat) : Int) + ((([13, 35, 32, 10]).length : Nat) : Int))) := by simpa using h126
                 refine w_skip ?_
                 show W _ _ _ _ _ _ _
                 refine w_region ?_
                 refine o1 K (os_move rfl) rfl fun _ K => ?_
                 refine o1 K (os_add rfl rfl (by omega) (by omega)) rfl fun _ K => ?_
                 refine o1 K (os_assign rfl) rfl fun _ K => ?_
                 refine wr_nil ?_
                 exact ⟨_, (by omega), i + 1, rfl, (.cons (K _ _ rfl) (.cons (K _ _ rfl) (.cons (K _ _ rfl) (.cons (K _ _ rfl) .nil)))), M.less (.refl _), (by omega)⟩
               replace e111 : ¬ (((t76.num : Nat) : Int) = ((t76.num : Nat) : Int)) := by simpa using e111
               refine dgn rfl K rfl rfl rfl rfl fun _ _ K => ?_
               refine dgn rfl K rfl rfl rfl rfl fun _ _ K => ?_
               refine dgn rfl K rfl rfl rfl rfl fun _ _ K => ?_
               refine dgn rfl K rfl rfl rfl rfl fun _ _ K => ?_
               refine dgn rfl K rfl rfl rfl rfl fun _ _ K => ?_
               refine dgn rfl K rfl rfl rfl rfl fun _ _ K => ?_
               refine dgn rfl K rfl rfl rfl rfl fun _ _ K => ?_
               refine dgn rfl K rfl rfl rfl rfl fun _ _ K => ?_
               refine dgn rfl K rfl rfl rfl rfl fun _ _ K => ?_
               refine dgn rfl K rfl rfl rfl rfl fun _ _ K => ?_
               refine dgn rfl K rfl rfl rfl rfl fun _ _ K => ?_
               refine dgn rfl K rfl rfl rfl rfl fun _ _ K => ?_
               refine dgn rfl K rfl rfl rfl rfl fun _ _ K => ?_
               refine dgn rfl K rfl rfl rfl rfl fun _ _ K => ?_
               refine d1 rfl K (os_pick rfl rfl rfl) rfl rfl fun _ K => ?_
               refine wd_nil ?_
               show W _ _ _ _ _ _ _
               refine w_cond (t := true) (K.opd rfl) (fun _ => ?_) (fun h => by cases h)
               refine w_seq ?_
               refine w_region ?_
               refine o1 K (os_assign rfl) rfl fun _ K => ?_
               refine wr_nil ?_
               show W _ _ _ _ _ _ _
               refine w_ret ?_
               refine ⟨.inr rfl, _, (res_one (rs_tmp K rfl)), ?_⟩
               first
                | rfl
                | (exfalso; simp_all; done)
                | (exfalso; omega)
                | (exfalso; simp_all; omega)
             replace e98 : ¬ ((textOf t76.text) = (textOf t76.text)) := by simpa using e98
             refine dgn rfl K rfl rfl rfl rfl fun _ _ K => ?_
             refine dgn rfl K rfl rfl rfl rfl fun _ _ K => ?_
             refine dgn rfl K rfl rfl rfl rfl fun _ _ K => ?_
             refine dgn rfl K rfl rfl rfl rfl fun _ _ K => ?_
             refine dgn rfl K rfl rfl rfl rfl fun _ _ K => ?_
             refine dgn rfl K rfl rfl rfl rfl fun _ _ K => ?_
             refine dgn rfl K rfl rfl rfl rfl fun _ _ K => ?_
             refine dgn rfl K rfl rfl rfl rfl fun _ _ K => ?_
             refine dgn rfl K rfl rfl rfl rfl fun _ _ K => ?_
             refine dgn rfl K rfl rfl rfl rfl fun _ _ K => ?_
             refine dgn rfl K rfl rfl rfl rfl fun _ _ K => ?_
             refine d1 rfl K (os_pick rfl rfl rfl) rfl rfl fun _ K => ?_
             refine d1 rfl K (os_move rfl) rfl rfl fun _ K => ?_
             refine dgn rfl K rfl rfl rfl rfl fun _ _ K => ?_
             refine dgn rfl K rfl rfl rfl rfl fun _ _ K => ?_
             refine dgn rfl K rfl rfl rfl rfl fun _ _ K => ?_
             refine dgn rfl K rfl rfl rfl rfl fun _ _ K => ?_
             refine dgn rfl K rfl rfl rfl rfl fun _ _ K => ?_
             refine dgn rfl K rfl rfl rfl rfl fun _ _ K => ?_
             refine dgn rfl K rfl rfl rfl rfl fun _ _ K => ?_
             refine dgn rfl K rfl rfl rfl rfl fun _ _ K => ?_
             refine dgn rfl K rfl rfl rfl rfl fun _ _ K => ?_
             refine dgn rfl K rfl rfl rfl rfl fun _ _ K => ?_
             refine dgn rfl K rfl rfl rfl rfl fun _ _ K => ?_
             refine dgn rfl K rfl rfl rfl rfl fun _ _ K => ?_
             refine dgn rfl K rfl rfl rfl rfl fun _ _ K => ?_
             refine dgn rfl K rfl rfl rfl rfl fun _ _ K => ?_
             refine d1 rfl K (os_pick rfl rfl rfl) rfl rfl fun _ K => ?_
             refine wd_nil ?_
             show W _ _ _ _ _ _ _
             refine w_cond (t := true) (K.opd rfl) (fun _ => ?_) (fun h => by cases h)
             refine w_seq ?_
             refine w_region ?_
             refine o1 K (os_assign rfl) rfl fun _ K => ?_
             refine wr_nil ?_
             show W _ _ _ _ _ _ _
             refine w_ret ?_
             refine ⟨.inr rfl, _, (res_one (rs_tmp K rfl)), ?_⟩
             first
              | rfl
              | (exfalso; simp_all; done)
              | (exfalso; omega)
              | (exfalso; simp_all; omega)
           replace e85 : ¬ (t76.kind = t76.kind) := by simpa using e85
           refine dgn rfl K rfl rfl rfl rfl fun _ _ K => ?_
           refine dgn rfl K rfl rfl rfl rfl fun _ _ K => ?_
           refine dgn rfl K rfl rfl rfl rfl fun _ _ K => ?_
           refine dgn rfl K rfl rfl rfl rfl fun _ _ K => ?_
           refine dgn rfl K rfl rfl rfl rfl fun _ _ K => ?_
           refine dgn rfl K rfl rfl rfl rfl fun _ _ K => ?_
           refine dgn rfl K rfl rfl rfl rfl fun _ _ K => ?_
           refine dgn rfl K rfl rfl rfl rfl fun _ _ K => ?_
           refine dgn rfl K rfl rfl rfl rfl fun _ _ K => ?_
           refine dgn rfl K rfl rfl rfl rfl fun _ _ K => ?_
           refine dgn rfl K rfl rfl rfl rfl fun _ _ K => ?_
           refine d1 rfl K (os_pick rfl rfl rfl) rfl rfl fun _ K => ?_
           refine d1 rfl K (os_move rfl) rfl rfl fun _ K => ?_
           refine dgn rfl K rfl rfl rfl rfl fun _ _ K => ?_
           refine dgn rfl K rfl rfl rfl rfl fun _ _ K => ?_
           refine dgn rfl K rfl rfl rfl rfl fun _ _ K => ?_
           refine dgn rfl K rfl rfl rfl rfl fun _ _ K => ?_
           refine dgn rfl K rfl rfl rfl rfl fun _ _ K => ?_
           refine dgn rfl K rfl rfl rfl rfl fun _ _ K => ?_
           refine dgn rfl K rfl rfl rfl rfl fun _ _ K => ?_
           refine dgn rfl K rfl rfl rfl rfl fun _ _ K => ?_
           refine dgn rfl K rfl rfl rfl rfl fun _ _ K => ?_
           refine dgn rfl K rfl rfl rfl rfl fun _ _ K => ?_
           refine dgn rfl K rfl rfl rfl rfl fun _ _ K => ?_
           refine d1 rfl K (os_pick rfl rfl rfl) rfl rfl fun _ K => ?_
           refine d1 rfl K (os_move rfl) rfl rfl fun _ K => ?_
           refine dgn rfl K rfl rfl rfl rfl fun _ _ K => ?_
           refine dgn rfl K rfl rfl rfl rfl fun _ _ K => ?_
           refine dgn rfl K rfl rfl rfl rfl fun _ _ K => ?_
           refine dgn rfl K rfl rfl rfl rfl fun _ _ K => ?_
           refine dgn rfl K rfl rfl rfl rfl fun _ _ K => ?_
           refine dgn rfl K rfl rfl rfl rfl fun _ _ K => ?_
           refine dgn rfl K rfl rfl rfl rfl fun _ _ K => ?_
           refine dgn rfl K rfl rfl rfl rfl fun _ _ K => ?_
           refine dgn rfl K rfl rfl rfl rfl fun _ _ K => ?_
           refine dgn rfl K rfl rfl rfl rfl fun _ _ K => ?_
           refine dgn rfl K rfl rfl rfl rfl fun _ _ K => ?_
           refine dgn rfl K rfl rfl rfl rfl fun _ _ K => ?_
           refine dgn rfl K rfl rfl rfl rfl fun _ _ K => ?_
           refine dgn rfl K rfl rfl rfl rfl fun _ _ K => ?_
           refine d1 rfl K (os_pick rfl rfl rfl) rfl rfl fun _ K => ?_
           refine wd_nil ?_
           show W _ _ _ _ _ _ _
           refine w_cond (t := true) (K.opd rfl) (fun _ => ?_) (fun h => by cases h)
           refine w_seq ?_
           refine w_region ?_
           refine o1 K (os_assign rfl) rfl fun _ K => ?_
           refine wr_nil ?_
           show W _ _ _ _ _ _ _
           refine w_ret ?_
           refine ⟨.inr rfl, _, (res_one (rs_tmp K rfl)), ?_⟩
           first
            | rfl
            | (exfalso; simp_all; done)
            | (exfalso; omega)
            | (exfalso; simp_all; omega)
         have hb71 := h71
         replace h71 := of_decide_eq_false h71
         refine w_exit ?_
         show W _ _ _ _ _ _ _
         refine w_seq ?_
         refine w_region ?_
         have ev127 := known2_evS
         refine o1 K (os_call rfl (ev127 _)) rfl fun _ K => ?_
         refine o1 K (os_assign rfl) rfl fun _ K => ?_
         refine wr_nil ?_
         show W _ _ _ _ _ _ _
         refine w_ret ?_
         refine ⟨.inr rfl, _, (res_one (rs_tmp K rfl)), ?_⟩
         first
          | rfl
          | (exfalso; simp_all; done)
          | (exfalso; omega)
          | (exfalso; simp_all; omega)
       replace e56 : ¬ (((((tokens (bytesOf ((([13, 35, 32, 10] ++ l) ++ [10]) ++ [13, 35, 32, 10]))).1.map TokR.cells).length : Nat) : Int) = ((((tokens (bytesOf l)).1.map TokR.cells).length : Nat) : Int)) := by simpa using e56
       refine gn K rfl rfl rfl rfl fun _ K => ?_
       refine gn K rfl rfl rfl rfl fun _ K => ?_
       refine gn K rfl rfl rfl rfl fun _ K => ?_
       refine gn K rfl rfl rfl rfl fun _ K => ?_
       refine gn K rfl rfl rfl rfl fun _ K => ?_
       refine gn K rfl rfl rfl rfl fun _ K => ?_
       refine gn K rfl rfl rfl rfl fun _ K => ?_
       refine gn K rfl rfl rfl rfl fun _ K => ?_
       refine gn K rfl rfl rfl rfl fun _ K => ?_
       refine o1 K (os_pick rfl rfl rfl) rfl fun _ K => ?_
       refine wr_nil ?_
       show W _ _ _ _ _ _ _
       refine w_cond (t := true) (K.opd rfl) (fun _ => ?_) (fun h => by cases h)
       refine w_seq ?_
       refine w_region ?_
       refine o1 K (os_assign rfl) rfl fun _ K => ?_
       refine wr_nil ?_
       show W _ _ _ _ _ _ _
       refine w_ret ?_
       refine ⟨.inr rfl, _, (res_one (rs_tmp K rfl)), ?_⟩
       first
        | rfl
        | (exfalso; simp_all; done)
        | (exfalso; omega)
        | (exfalso; simp_all; omega)
     replace e49 : ¬ ((tokens (bytesOf ((([13, 35, 32, 10] ++ l) ++ [10]) ++ [13, 35, 32, 10]))).2.2 = 0) := by simpa using e49
     refine gn K rfl rfl rfl rfl fun _ K => ?_
     refine gn K rfl rfl rfl rfl fun _ K => ?_
     refine gn K rfl rfl rfl rfl fun _ K => ?_
     refine gn K rfl rfl rfl rfl fun _ K => ?_
     refine gn K rfl rfl rfl rfl fun _ K => ?_
     refine o1 K (os_pick rfl rfl rfl) rfl fun _ K => ?_
     refine o1 K (os_move rfl) rfl fun _ K => ?_
     refine gn K rfl rfl rfl rfl fun _ K => ?_
     refine gn K rfl rfl rfl rfl fun _ K => ?_
     refine gn K rfl rfl rfl rfl fun _ K => ?_
     refine gn K rfl rfl rfl rfl fun _ K => ?_
     refine gn K rfl rfl rfl rfl fun _ K => ?_
     refine gn K rfl rfl rfl rfl fun _ K => ?_
     refine gn K rfl rfl rfl rfl fun _ K => ?_
     refine gn K rfl rfl rfl rfl fun _ K => ?_
     refine gn K rfl rfl rfl rfl fun _ K => ?_
     refine o1 K (os_pick rfl rfl rfl) rfl fun _ K => ?_
     refine wr_nil ?_
     show W _ _ _ _ _ _ _
     refine w_cond (t := true) (K.opd rfl) (fun _ => ?_) (fun h => by cases h)
     refine w_seq ?_
     refine w_region ?_
     refine o1 K (os_assign rfl) rfl fun _ K => ?_
     refine wr_nil ?_
     show W _ _ _ _ _ _ _
     refine w_ret ?_
     refine ⟨.inr rfl, _, (res_one (rs_tmp K rfl)), ?_⟩
     first
      | rfl
      | (exfalso; simp_all; done)
      | (exfalso; omega)
      | (exfalso; simp_all; omega)
   replace e20 := of_decide_eq_true e20
   refine gn K rfl rfl rfl rfl fun _ K => ?_
   refine gn K rfl rfl rfl rfl fun _ K => ?_
   refine o1 K (os_pick rfl rfl rfl) rfl fun _ K => ?_
   refine wr_nil ?_
   show W _ _ _ _ _ _ _
   refine w_cond (t := true) (K.opd rfl) (fun _ => ?_) (fun h => by cases h)
   refine w_seq ?_
   refine w_region ?_
   refine o1 K (os_assign rfl) rfl fun _ K => ?_
   refine wr_nil ?_
   show W _ _ _ _ _ _ _
   refine w_ret ?_
   refine ⟨.inr rfl, _, (res_one (rs_tmp K rfl)), ?_⟩
   first
    | rfl
    | (exfalso; simp_all; done)
    | (exfalso; omega)
    | (exfalso; simp_all; omega)
 replace e16 := of_decide_eq_true e16
 refine gn K rfl rfl rfl rfl fun _ K => ?_
 refine gn K rfl rfl rfl rfl fun _ K => ?_
 refine o1 K (os_pick rfl rfl rfl) rfl fun _ K => ?_
 refine o1 K (os_move rfl) rfl fun _ K => ?_
 refine gn K rfl rfl rfl rfl fun _ K => ?_
 refine gn K rfl rfl rfl rfl fun _ K => ?_
 refine o1 K (os_pick rfl rfl rfl) rfl fun _ K => ?_
 refine wr_nil ?_
 show W _ _ _ _ _ _ _
 refine w_cond (t := true) (K.opd rfl) (fun _ => ?_) (fun h => by cases h)
 refine w_seq ?_
 refine w_region ?_
 refine o1 K (os_assign rfl) rfl fun _ K => ?_
 refine wr_nil ?_
 show W _ _ _ _ _ _ _
 refine w_ret ?_
 refine ⟨.inr rfl, _, (res_one (rs_tmp K rfl)), ?_⟩
 first
  | rfl
  | (exfalso; simp_all; done)
  | (exfalso; omega)
  | (exfalso; simp_all; omega)
end Go.Proofs.YtcccnnfmhdogoaaDoor
